import PyProof.Rows.All
import Wide.All
import OpenK.AllK
import Wide.FinOn
import KE.KDictList
import KE.KEqDict
import Open.Boot
import Open.FastT9
import Open.Tree
import OpenK.KCell
import OpenK.KList
import OpenK.KMore
import OpenK.KNot
import OpenK.KOwn
import OpenK.KWalk
import PyProof.ExcArgs
import PyProof.NsDelKeeps
import PyProof.WalksMore
import PyProof.WalksPairs
import PySem.Challenge.RW_uf020038_08
open PySem PySem.W PyProof.Rows PySem.Spec PySem.SeqAt PySem.Calls
set_option Elab.async false
set_option maxRecDepth 100000
set_option maxHeartbeats 4000000
set_option linter.all false
set_option bootstrap.genMatcherCode false
set_option genSizeOf false
set_option genSizeOfSpec false
set_option tactic.hygienic false
section
open PySem PySem.W PyProof.Rows PySem.Spec PySem.SeqAt
namespace Mine
inductive AV where
  | none
  | bool (b : Bool)
  | int (i : Int)
  | str (s : Str)
  | ref (a : Addr)
  deriving DecidableEq, Inhabited
inductive Sta where
  | opn | dn | fln
  deriving DecidableEq, Inhabited
noncomputable def Sta.str : Sta → Str
  | .opn => Str.ofString "open"
  | .dn => Str.ofString "done"
  | .fln => Str.ofString "fallen"
structure Pc where
  name : Str
  parts : List (Str × Int)
  gains : List (Str × Int)
  needs : List Str
  last : Int
  state : Sta
  inside : List Str
structure Bk where
  day : Int
  free : List (Str × Int)
  aside : List (Str × Int)
  pacts : List Pc
noncomputable def letters : Str := Str.ofString "abcdefghijklmnopqrstuvwxyz"
noncomputable def isNm (s : Str) : Bool := decide (1 ≤ s.length ∧ s.length ≤ 12) && s.cps.toList.all fun ch => letters.cps.toList.contains ch
noncomputable def lk {α : Type} (l : List (Str × α)) (k : Str) : Option α := (l.find? fun e => e.1 = k).map (·.2)
noncomputable def pt {α : Type} (l : List (Str × α)) (k : Str) (v : α) : List (Str × α) := if (lk l k).isSome then l.map (fun e => if e.1 = k then (e.1, v) else e) else l ++ [(k, v)]
noncomputable def ad (l : List (Str × Int)) (k : Str) (n : Int) : List (Str × Int) := pt l k ((lk l k).getD 0 + n)
noncomputable def Bk.pact (B : Bk) (k : Str) : Option Pc := B.pacts.find? fun q => q.name = k
noncomputable def Bk.setPact (B : Bk) (k : Str) (f : Pc → Pc) : Bk := { B with pacts := B.pacts.map fun q => if q.name = k then f q else q }
noncomputable def Bk.giveBack (B : Bk) (k : Str) (n : Int) : Bk := { B with aside := ad B.aside k (-n), free := ad B.free k n }
noncomputable def Bk.fellQ (B : Bk) (q : Pc) : Bk :=
  (q.parts.foldl (fun B e => if e.1 ∈ q.inside then B.giveBack e.1 e.2 else B) B).setPact q.name fun q => { q with inside := [], state := .fln }
noncomputable def Bk.fallen (B : Bk) (k : Str) : Bool := match B.pact k with
  | some q => q.state == .fln
  | none => false
noncomputable def Bk.firstDragged (B : Bk) : Option Pc := B.pacts.find? fun q => q.state == .opn && q.needs.any B.fallen
noncomputable def Bk.dragged : Nat → Bk → List Str → Bk × List Str
  | 0, B, l => (B, l)
  | n + 1, B, l => match B.firstDragged with
    | none => (B, l)
    | some q => (B.fellQ q).dragged n (l ++ [q.name])
inductive AObj where
  | list (xs : List AV)
  | tuple (xs : List AV)
  | dict (ep : Nat) (es : List (Str × AV))
  | inst (c : String) (es : List (String × AV))
  | range (lo hi : Int)
  | vals (d : Addr)
  | itms (d : Addr)
  | exc (c : String)
  | script (ns : List Int)
  | book (B : Bk)
noncomputable def AObj.isB : AObj → Bool
  | .book _ => true
  | _ => false
noncomputable def AObj.isS : AObj → Bool
  | .script _ => true
  | _ => false
noncomputable def AObj.isX : AObj → Bool
  | .script _ => true
  | .exc _ => true
  | _ => false
abbrev Zaa := Addr → Option AObj
noncomputable def up (H : Zaa) (a : Addr) (o : AObj) : Zaa := fun b => if b = a then some o else H b
abbrev VV := List (Option AV)
inductive VR : AV → Value → Prop
  | none : VR .none .none
  | bool (b : Bool) : VR (.bool b) (.bool b)
  | int (i : Int) (t : Tok) : VR (.int i) (.int i t)
  | str (s : Str) (t : Tok) (h : PyData.strOk s = true) : VR (.str s) (.str s t)
  | ref (a : Addr) : VR (.ref a) (.ref a)
inductive VRs : List AV → List Value → Prop
  | nil : VRs [] []
  | cons {a v as vs} : VR a v → VRs as vs → VRs (a :: as) (v :: vs)
inductive OVR : Option AV → Option Value → Prop
  | none : OVR Option.none Option.none
  | some {a v} : VR a v → OVR (Option.some a) (Option.some v)
inductive DRs : List (Str × AV) → List (Str × Value) → Prop
  | nil : DRs [] []
  | cons {k a v as vs} : PyData.strOk k = true → VR a v → DRs as vs → DRs ((k, a) :: as) ((k, v) :: vs)
inductive Tg where
  | var (i : Nat)
  | tup (is : List Nat)
inductive Pr where
  | len | list | int | range | sum | all | min | max
noncomputable def Pr.str : Pr → String
  | .len => "len" | .list => "list" | .int => "int" | .range => "range" | .sum => "sum" | .all => "all" | .min => "min" | .max => "max"
inductive BM where
  | append | index | count | clear | values | pop | upper
noncomputable def BM.str : BM → String
  | .append => "append" | .index => "index" | .count => "count" | .clear => "clear" | .values => "values" | .pop => "pop" | .upper => "upper"
inductive X where
  | lit (v : AV)
  | var (i : Nat)
  | glob (n : String)
  | bin (op : Operator) (a b : X)
  | neg (a : X)
  | not (a : X)
  | ao (isAnd : Bool) (xs : List X)
  | cmp (op : CmpOp) (a b : X)
  | cmp2 (op1 op2 : CmpOp) (a b c : X)
  | sub (a i : X)
  | slice (a : X) (lo hi st : Option X)
  | attr (a : X) (n : String)
  | call (f : String) (xs : List X)
  | new (c : String) (xs : List X)
  | meth (a : X) (m : String) (xs : List X)
  | bm (a : X) (m : BM) (xs : List X)
  | prim (f : Pr) (xs : List X)
  | isinst (a : X) (c : String)
  | list (xs : List X)
  | tuple (xs : List X)
  | dict (ks vs : List X)
  | comp (e : X) (k : Nat) (tup : Bool) (it : X) (c : Option X)
inductive T where
  | var (i : Nat)
  | tup (is : List Nat)
  | sub (a i : X)
  | attr (a : X) (n : String)
mutual
inductive S where
  | assign (t : T) (e : X)
  | expr (e : X)
  | ret (e : X)
  | ite (c : X) (a b : List S)
  | while (c : X) (body : List S)
  | for (t : Tg) (it : X) (body : List S)
  | raise (c : String) (msg : Str)
  | try (body : List S) (hs : List Hd)
  | pass
inductive Hd where
  | mk (c : String) (nm : Option Nat) (body : List S)
end
structure Fn where
  npar : Nat
  slots : List String
  body : List S
structure Pg where
  fns : List (String × Fn)
  gfns : List String
  consts : List (String × AV)
  excs : List (String × List String)
  classes : List String
  meths : List (String × String)
  attrs : List (String × String)
  prims : List String
inductive Res where
  | ns (m : Str → Option Value)
  | cell (v : Option Value)
  | obj (o : Obj)
abbrev RR := Addr → Option Res
noncomputable def rup (R : RR) (a : Addr) (r : Res) : RR := fun b => if b = a then some r else R b
noncomputable def ResAt (h : Heap) (b : Addr) : Res → Prop
  | .ns m => h.Ns b m
  | .cell v => ∃ o, h.get? b = some o ∧ o.data = .cell v
  | .obj o => h.get? b = some o
structure Cx where
  prog : Program
  w : World
  K : Frag
  base : Heap
  P : Pg
  fa : String → Addr
  ca : String → Addr
noncomputable def Zb9 (es : List (String × AV)) (ents : List DictEntry) : Prop :=
  match es, ents with
  | [], [] => True
  | (n, a) :: r, e :: q => (∃ t, e.key = .str (Str.ofString n) t) ∧ VR a e.val ∧ Zb9 r q
  | _, _ => False
noncomputable def RgOk (a b : Int) : Prop := -(2 ^ 62) < a ∧ a < 2 ^ 62 ∧ -(2 ^ 62) < b ∧ b < 2 ^ 62
noncomputable def ORep (c : Cx) (h : Heap) (D : Addr → Addr) (a : Addr) : AObj → Prop
  | .list xs => ∃ vs n, h.get? a = some (listOf (vs : List Value).toArray n) ∧ VRs xs vs
  | .tuple xs => ∃ vs n, h.get? a = some { cls := .type "tuple", data := .seq (vs : List Value).toArray n } ∧ VRs xs vs
  | .dict ep es => ∃ kvs, h.DictAt (strKind c.prog c.w) a kvs ep ∧ DRs es kvs
  | .inst cl es => h.get? a = some (instObj (c.ca cl) (D a)) ∧ ∃ ents n, h.get? (D a) = some (dictOf ents n) ∧ Zb9 es ents ∧ (es.map (·.1)).Nodup
  | .range lo hi => RgOk lo hi ∧ ∃ t u v, IsRange h a lo hi 1 t u v
  | .vals d => h.get? a = some { cls := .type "dict_values", data := .fields #[.ref d] }
  | .itms d => h.get? a = some { cls := .type "dict_items", data := .fields #[.ref d] }
  | .exc cl => ∃ o, h.get? a = some o ∧ o.cls = .ref (c.ca cl) ∧ ∃ vs, o.data = .fields vs
  | .script ns => ∃ vs n, h.get? a = some (listOf (vs : List Value).toArray n) ∧ VRs (ns.map AV.int) vs
  | .book _ => False
noncomputable def Abv (c : Cx) (a : Addr) (o : AObj) : Prop := (o.isS = false → c.base.get? a = none) ∧ (o.isX = false → c.base.objs.size ≤ a)
structure HR (c : Cx) (R : RR) (D : Addr → Addr) (H : Zaa) (h : Heap) : Prop where
  rep : ∀ a o, H a = some o → ORep c h D a o
  above : ∀ a o, H a = some o → Abv c a o ∧ R a = none
  dict : ∀ a cl es, H a = some (.inst cl es) → c.base.objs.size ≤ D a ∧ R (D a) = none ∧ H (D a) = none
  inj : ∀ a b cl es cl' es', H a = some (.inst cl es) → H b = some (.inst cl' es') → D a = D b → a = b
structure St1 (c : Cx) (R : RR) (H : Zaa) (h : Heap) : Prop where
  stays : c.base.StaysIn h
  size : c.base.objs.size ≤ h.objs.size
  res : ∀ b r, R b = some r → c.base.objs.size ≤ b ∧ ResAt h b r
  rep : ∃ D, HR c R D H h
inductive Role where
  | self | free | aside | pacts | pact (i : Nat) | inside (i : Nat) | data
noncomputable def dI (l : List (Str × Int)) : List (Str × AV) := l.map fun e => (e.1, .int e.2)
noncomputable def pairsAV (o : Addr → Option Role) (H : Zaa) : List Addr → List (Str × Int) → Prop
  | [], [] => True
  | t :: ts, e :: l => o t = some .data ∧ H t = some (.tuple [.str e.1, .int e.2]) ∧ pairsAV o H ts l
  | _, _ => False
noncomputable def PairsAt (o : Addr → Option Role) (H : Zaa) (p : Addr) (l : List (Str × Int)) : Prop := o p = some .data ∧ ∃ ts : List Addr, H p = some (.list (ts.map .ref)) ∧ pairsAV o H ts l
structure IsPact (o : Addr → Option Role) (H : Zaa) (i : Nat) (a : Addr) (q : Pc) : Prop where
  own : o a = some (.pact i)
  at_ : ∃ pa ga ne ins ep, H a = some (.inst "Pact" [("name", .str q.name), ("parts", .ref pa), ("gains", .ref ga), ("needs", .ref ne), ("last", .int q.last), ("state", .str q.state.str), ("inside", .ref ins)]) ∧
    PairsAt o H pa q.parts ∧ PairsAt o H ga q.gains ∧ o ne = some .data ∧ H ne = some (.list (q.needs.map .str)) ∧ o ins = some (.inside i) ∧ H ins = some (.dict ep (q.inside.map fun k => (k, .bool true)))
noncomputable def pactsAt (o : Addr → Option Role) (H : Zaa) : Nat → List Addr → List Pc → Prop
  | _, [], [] => True
  | i, a :: as, q :: qs => IsPact o H i a q ∧ pactsAt o H (i + 1) as qs
  | _, _, _ => False
noncomputable def dP : List Pc → List Addr → List (Str × AV)
  | q :: qs, a :: as => (q.name, .ref a) :: dP qs as
  | _, _ => []
structure IsBook (o : Addr → Option Role) (H : Zaa) (b f s p : Addr) (as : List Addr) (B : Bk) : Prop where
  ob : o b = some .self
  of : o f = some .free
  os : o s = some .aside
  op : o p = some .pacts
  hb : H b = some (.inst "Book" [("day", .int B.day), ("free", .ref f), ("aside", .ref s), ("pacts", .ref p)])
  hf : ∃ ep, H f = some (.dict ep (dI B.free))
  hs : ∃ ep, H s = some (.dict ep (dI B.aside))
  hp : ∃ ep, H p = some (.dict ep (dP B.pacts as))
  ps : pactsAt o H 0 as B.pacts
noncomputable def ownB (o : Addr → Option (Addr × Role)) (b : Addr) : Addr → Option Role := fun a => match o a with
  | some (c, r) => if c = b then some r else none
  | none => none
noncomputable def Real (H H₁ : Zaa) : Prop := (∀ a x, H₁ a = some x → x.isB = false) ∧ ∃ o : Addr → Option (Addr × Role), ∀ a x, H a = some x → (x.isB = false ∧ H₁ a = some x ∧ o a = none) ∨ ∃ B f s p as, x = .book B ∧ IsBook (ownB o a) H₁ a f s p as B
noncomputable def St (c : Cx) (R : RR) (H : Zaa) (h : Heap) : Prop := ∃ H₁, St1 c R H₁ h ∧ Real H H₁
noncomputable def Sm (s s' : Shared) : Prop := ∃ h tk, s' = { s with heap := h, toks := tk }
structure FEnv (R : RR) (e : Env) : Prop where
  kind : e.scope.kind = .function
  frame : e.frame = some e.locals
  gen : e.scope.isGenerator = false
  co : e.scope.isCoroutine = false
  blt : e.builtins = builtinsNs
  glob : e.globals = mainGlobals
  ns : ∃ m, R e.locals = some (.ns m)
noncomputable def Stk (R : RR) (stk : List Env) : Prop := ∀ e ∈ stk, FEnv R e
structure AOk (k n : Nat) (md : Bool) (A : Around) (stk : List Env) : Prop where
  frames : A.frames = some stk
  depth : A.depth + 110 + k + 8 * n < recursionLimit
  units : A.units + 100 + 10 * k + 60 * n < cLine
  hand : md = true → A.handled = none
inductive ExcAt (c : Cx) (R : RR) (H : Zaa) (h : Heap) (e : Addr) (cls : Value) : Value → Prop
  | fresh {t : Addr} : h.get? e = some { cls := cls, data := .fields #[.ref t, .none, .none, .none, .bool false, .none] } → ExcAt c R H h e cls .ellipsis
  | traced {oe : Obj} {vs : Array Value} {T : Addr} {oT : Obj} {ts : Array Value} {fl a0 : Value} : h.get? e = some oe → oe.cls = cls → oe.data = .fields vs → vs[0]? = some a0 → vs[1]? = some (.ref T) → T ≠ e →
      R T = none → H T = none → c.base.get? T = none → h.get? T = some oT → oT.data = .fields ts → ts[3]? = some fl → fl ≠ .ellipsis → ExcAt c R H h e cls fl
structure ExcSt1 (c : Cx) (R : RR) (H : Zaa) (e : Addr) (cl : String) (fl : Value) (h : Heap) : Prop where
  st : St1 c R H h
  re : R e = none
  he : H e = none
  be : c.base.get? e = none
  ob : ExcAt c R H h e (.ref (c.ca cl)) fl
  kn : (c.P.excs.lookup cl).isSome = true
noncomputable def ExcSt (c : Cx) (R : RR) (H : Zaa) (e : Addr) (cl : String) (fl : Value) (h : Heap) : Prop := ∃ H₁, ExcSt1 c R H₁ e cl fl h ∧ Real H H₁
noncomputable def CallOK (c : Cx) (n : Nat) (md : Bool) (f : String) (args : List AV) (Q : AV → Zaa → Prop) (E : String → Zaa → Prop) (H : Zaa) : Prop :=
  ∀ (A : Around) (stk : List Env) (R : RR) (s : Shared) (vals : List Value) (Rs : Result → Shared → Prop),
    AOk 0 n md A stk → Stk R stk → St c R H s.heap → VRs args vals →
    (∀ av v s' H', VR av v → St c R H' s'.heap → Sm s s' → Q av H' → Rs (.ok (.ret v)) s') →
    (∀ e cl s' H', ExcSt c R H' e cl .none s'.heap → Sm s s' → E cl H' → Rs (.error (.ref e)) s') →
    codeAny (model c.prog c.w) A (.call (.ref (c.fa f)) ⟨vals, []⟩) Rs s
mutual
inductive RD (H : Zaa) : AV → PyData → Prop
  | none : RD H .none .none
  | bool (b : Bool) : RD H (.bool b) (.bool b)
  | int (i : Int) : RD H (.int i) (.int i)
  | str (s : Str) : RD H (.str s) (.str s)
  | list {a xs ds} : H a = some (.list xs) → RDs H xs ds → RD H (.ref a) (.list ds)
  | tuple {a xs ds} : H a = some (.tuple xs) → RDs H xs ds → RD H (.ref a) (.tuple ds)
inductive RDs (H : Zaa) : List AV → List PyData → Prop
  | nil : RDs H [] []
  | cons {a d as ds} : RD H a d → RDs H as ds → RDs H (a :: as) (d :: ds)
end
mutual
noncomputable def Zhu : PyData → Bool
  | .none | .bool _ | .int _ | .str _ => true
  | .list xs | .tuple xs => Zdi xs
  | .dict _ => false
noncomputable def Zdi : List PyData → Bool
  | [] => true
  | x :: xs => Zhu x && Zdi xs
end
noncomputable def okD (d : PyData) : Prop := Zhu d = true ∧ d.depth ≤ 64
noncomputable def Zgk (n : Nat) (i : Int) : Option Nat :=
  if 0 ≤ i then (if i < n then some i.toNat else none) else if -(n : Int) ≤ i then some (i + n).toNat else none
noncomputable def Zb0 (es : List (Str × AV)) (k : Str) : Option AV := (es.find? fun e => e.1 = k).map (·.2)
noncomputable def putS (es : List (Str × AV)) (k : Str) (v : AV) : List (Str × AV) :=
  if (Zb0 es k).isSome then es.map (fun e => if e.1 = k then (e.1, v) else e) else es ++ [(k, v)]
noncomputable def Zd0 (es : List (String × AV)) (k : String) : Option AV := (es.find? fun e => e.1 = k).map (·.2)
noncomputable def putA (es : List (String × AV)) (k : String) (v : AV) : List (String × AV) :=
  if (Zd0 es k).isSome then es.map (fun e => if e.1 = k then (e.1, v) else e) else es ++ [(k, v)]
noncomputable def Zbh (v : AV) (H : Zaa) (Q : Bool → Prop) : Prop :=
  match v with
  | .none => Q false
  | .bool b => Q b
  | .int i => Q (i != 0)
  | .str s => s.length < 2 ^ 62 ∧ Q (s.length != 0)
  | .ref a => match H a with
    | some (.list xs) => xs.length < 2 ^ 62 ∧ Q (!xs.isEmpty)
    | some (.tuple xs) => xs.length < 2 ^ 62 ∧ Q (!xs.isEmpty)
    | _ => False
noncomputable def wii (a b : AV) (P : Int → Int → Prop) : Prop := match a, b with
  | .int x, .int y => P x y
  | _, _ => False
noncomputable def wbin (op : Operator) (a b : AV) (Q : AV → Zaa → Prop) (H : Zaa) : Prop :=
  match op with
  | .Add => (match a, b with
    | .int x, .int y => Q (.int (x + y)) H
    | .str x, .str y => x.length + y.length ≤ sizeLine ∧ Q (.str (x ++ y)) H
    | .ref x, .ref y => (match H x, H y with
      | some (.list xs), some (.list ys) => xs.length + ys.length ≤ sizeLine ∧ ∀ z, H z = none → Q (.ref z) (up H z (.list (xs ++ ys)))
      | _, _ => False)
    | _, _ => False)
  | .Sub => wii a b fun x y => Q (.int (x - y)) H
  | .Mult => wii a b fun x y => IntMulOk x y ∧ Q (.int (x * y)) H
  | .FloorDiv => wii a b fun x y => y ≠ 0 ∧ Q (.int (x.fdiv y)) H
  | .Mod => wii a b fun x y => y ≠ 0 ∧ Q (.int (x.fmod y)) H
  | .Pow => wii a b fun x y => (2 ≤ x ∧ 1 ≤ y ∧ Builtin.Int.intTooBig (((Builtin.Int.intBits x : Nat) : Int) * y) = false) ∧ Q (.int (x ^ y.toNat)) H
  | _ => False
noncomputable def nt (n b : Bool) : Bool := match n with
  | true => !b
  | false => b
theorem Ziv {n b : Bool} : (b != n) = nt n b := by cases n <;> cases b <;> rfl
noncomputable def weq (ne : Bool) (a b : AV) (Q : AV → Zaa → Prop) (H : Zaa) : Prop :=
  match a, b with
  | .int x, .int y => Q (.bool (nt ne (x == y))) H
  | .str x, .str y => Q (.bool (nt ne (x == y))) H
  | a, b => ∃ da db, RD H a da ∧ RD H b db ∧ okD da ∧ okD db ∧ Q (.bool (nt ne (PyData.eqv da db))) H
noncomputable def win (no : Bool) (x cc : AV) (Q : AV → Zaa → Prop) (H : Zaa) : Prop :=
  match cc with
  | .ref a => match H a with
    | some (.list ys) => ∃ d ds, RD H x d ∧ RDs H ys ds ∧ okD d ∧ Zdi ds = true ∧ Q (.bool (nt no (ds.any fun y => PyData.eqv y d))) H
    | some (.dict _ es) => match x with
      | .str k => Q (.bool (nt no (Zb0 es k).isSome)) H
      | _ => False
    | _ => False
  | .str s => match x with
    | .str k => ∃ ch, k = ⟨#[ch]⟩ ∧ Q (.bool (nt no (s.cps.toList.contains ch))) H
    | _ => False
  | _ => False
noncomputable def wcmp (op : CmpOp) (a b : AV) (Q : AV → Zaa → Prop) (H : Zaa) : Prop :=
  match op with
  | .Eq => weq false a b Q H
  | .NotEq => weq true a b Q H
  | .In => win false a b Q H
  | .NotIn => win true a b Q H
  | .Is => match b with
    | .none => Q (.bool (a == .none)) H
    | .bool c => Q (.bool (a == .bool c)) H
    | _ => False
  | .IsNot => match b with
    | .none => Q (.bool (a != .none)) H
    | .bool c => Q (.bool (a != .bool c)) H
    | _ => False
  | op => match a, b with
    | .int x, .int y => match op with
      | .Lt => Q (.bool (decide (x < y))) H
      | .LtE => Q (.bool (decide (x ≤ y))) H
      | .Gt => Q (.bool (decide (y < x))) H
      | .GtE => Q (.bool (decide (y ≤ x))) H
      | _ => False
    | _, _ => False
noncomputable def wsub (a i : AV) (Q : AV → Zaa → Prop) (H : Zaa) : Prop :=
  match a, i with
  | .ref a, .int i => match H a with
    | some (.list xs) => ∃ j v, Zgk xs.length i = some j ∧ i < 2 ^ 63 ∧ -(2 ^ 63) ≤ i ∧ xs[j]? = some v ∧ Q v H
    | some (.tuple xs) => ∃ j v, Zgk xs.length i = some j ∧ i < 2 ^ 63 ∧ -(2 ^ 63) ≤ i ∧ xs[j]? = some v ∧ Q v H
    | some (.script ns) => 0 ≤ i ∧ i < 2 ^ 63 ∧ ∃ n, ns[i.toNat]? = some n ∧ Q (.int n) H
    | _ => False
  | .ref a, .str k => match H a with
    | some (.dict _ es) => ∃ v, Zb0 es k = some v ∧ Q v H
    | _ => False
  | .str s, .int i => 0 ≤ i ∧ i < 2 ^ 63 ∧ ∃ ch, s.cps[i.toNat]? = some ch ∧ Q (.str ⟨#[ch]⟩) H
  | _, _ => False
noncomputable def Zfc {α : Type} (xs : List α) (lo hi st : Option Int) : List α :=
  (sliceRange (sliceBounds lo hi st xs.length).1 (sliceBounds lo hi st xs.length).2.1 (sliceBounds lo hi st xs.length).2.2).filterMap (xs[·]?)
noncomputable def Zjg : Option AV → Option (Option Int)
  | none => some none
  | some (.int i) => some (some i)
  | _ => none
noncomputable def Zgw (a : AV) (lo hi st : Option AV) (Q : AV → Zaa → Prop) (H : Zaa) : Prop :=
  match a with
  | .ref a => (match H a with
    | some (.list xs) => ∃ l u t, Zjg lo = some l ∧ Zjg hi = some u ∧ Zjg st = some t ∧ t ≠ some 0 ∧ xs.length ≤ sizeLine ∧ ∀ z, H z = none → Q (.ref z) (up H z (.list (Zfc xs l u t)))
    | _ => False)
  | .str s => (match lo, hi, st with
    | some (.int l), none, none => 0 ≤ l ∧ l ≤ s.length ∧ s.length ≤ sizeLine ∧ Q (.str ⟨(s.cps.toList.drop l.toNat).toArray⟩) H
    | none, some (.int u), none => 0 ≤ u ∧ u ≤ s.length ∧ s.length ≤ sizeLine ∧ Q (.str ⟨(s.cps.toList.take u.toNat).toArray⟩) H
    | _, _, _ => False)
  | _ => False
noncomputable def Zfr (H : Zaa) (v : AV) : Option String :=
  match v with
  | .none => some "NoneType"
  | .bool _ => some "bool"
  | .int _ => some "int"
  | .str _ => some "str"
  | .ref a => match H a with
    | some (.list _) => some "list"
    | some (.tuple _) => some "tuple"
    | some (.dict ..) => some "dict"
    | _ => none
noncomputable def Zcb (P : Pg) (H : Zaa) (v : AV) (ty : String) : Option Bool :=
  if ty = "int" ∨ ty = "bool" ∨ ty = "str" ∨ ty = "list" then (Zfr H v).map fun k => k == ty || (k == "bool" && ty == "int")
  else match v with
  | .ref a => match H a with
    | some (.exc c) => if ((P.excs.lookup c).map (·.contains ty)).getD false then some true else if (P.excs.lookup ty).isSome && (P.excs.lookup c).isSome then some false else none
    | _ => none
  | _ => none
noncomputable def onV1 (vs : List AV) (k : AV → Prop) : Prop := match vs with
  | [] => False
  | v :: r => match r with
    | [] => k v
    | _ :: _ => False
noncomputable def atL (o : AV) (H : Zaa) (k : Addr → List AV → Prop) : Prop := match o with
  | .ref p => (match H p with
    | some (.list xs) => k p xs
    | _ => False)
  | _ => False
noncomputable def atD (o : AV) (H : Zaa) (k : Addr → List (Str × AV) → Prop) : Prop := match o with
  | .ref p => (match H p with
    | some (.dict _ es) => k p es
    | _ => False)
  | _ => False
noncomputable def wlen (v : AV) (Q : AV → Zaa → Prop) (H : Zaa) : Prop := match v with
  | .str s => s.length < 2 ^ 62 ∧ Q (.int s.length) H
  | .ref a => (match H a with
      | some (.list xs) => xs.length < 2 ^ 62 ∧ Q (.int xs.length) H
      | some (.tuple xs) => xs.length < 2 ^ 62 ∧ Q (.int xs.length) H
      | some (.dict _ es) => es.length < 2 ^ 62 ∧ Q (.int es.length) H
      | some (.script ns) => ns.length < 2 ^ 62 ∧ Q (.int ns.length) H
      | _ => False)
  | _ => False
noncomputable def Zup (md : Bool) (v : AV) (Q : AV → Zaa → Prop) (H : Zaa) : Prop := match v with
  | .ref a => (match H a with
      | some (.list xs) => xs.length ≤ sizeLine ∧ ∀ z, H z = none → Q (.ref z) (up H z (.list xs))
      | some (.tuple xs) => xs.length ≤ sizeLine ∧ ∀ z, H z = none → Q (.ref z) (up H z (.list xs))
      | some (.dict _ es) => md = true ∧ es.length ≤ sizeLine ∧ ∀ z, H z = none → Q (.ref z) (up H z (.list (es.map fun e => .str e.1)))
      | some (.vals d) => (match H d with
        | some (.dict _ es) => md = true ∧ es.length ≤ sizeLine ∧ ∀ z, H z = none → Q (.ref z) (up H z (.list (es.map (·.2))))
        | _ => False)
      | _ => False)
  | _ => False
noncomputable def wsum (v : AV) (Q : AV → Zaa → Prop) (H : Zaa) : Prop := match v with
  | .ref a => (match H a with
      | some (.list xs) => ∃ ns : List Int, xs = ns.map .int ∧ Q (.int ns.sum) H
      | _ => False)
  | _ => False
noncomputable def on1i (a : AV) (k : Int → Prop) : Prop := match a with
  | .int x => k x
  | _ => False
noncomputable def wi2 (vs : List AV) (k : Int → Int → Prop) : Prop := match vs with
  | [] => False
  | a :: r => onV1 r fun b => wii a b k
noncomputable def Zd8 (md : Bool) (f : Pr) (vs : List AV) (Q : AV → Zaa → Prop) (H : Zaa) : Prop :=
  match f with
  | .len => onV1 vs fun v => wlen v Q H
  | .list => onV1 vs fun v => Zup md v Q H
  | .int => onV1 vs fun v => match v with
    | .bool b => Q (.int (if b then 1 else 0)) H
    | _ => False
  | .range => match vs with
    | [] => False
    | a :: r => match r with
      | [] => on1i a fun b => (-(2 ^ 62) < b ∧ b < 2 ^ 62) ∧ ∀ z, H z = none → Q (.ref z) (up H z (.range 0 b))
      | _ :: _ => onV1 r fun b => wii a b fun a b => (-(2 ^ 62) < a ∧ a < 2 ^ 62 ∧ -(2 ^ 62) < b ∧ b < 2 ^ 62) ∧ ∀ z, H z = none → Q (.ref z) (up H z (.range a b))
  | .sum => onV1 vs fun v => md = true ∧ wsum v Q H
  | .min => wi2 vs fun a b => md = true ∧ Q (.int (if b < a then b else a)) H
  | .max => wi2 vs fun a b => md = true ∧ Q (.int (if a < b then b else a)) H
  | .all => False
noncomputable def bookAttrs : List String := ["day", "free", "aside", "pacts"]
noncomputable def wbm (o : AV) (m : BM) (vs : List AV) (Q : AV → Zaa → Prop) (H : Zaa) : Prop :=
  match m with
  | .append => onV1 vs fun v => atL o H fun p xs => xs.length ≤ sizeLine ∧ Q .none (up H p (.list (xs ++ [v])))
  | .clear => match vs with
    | [] => atL o H fun p xs => xs.length ≤ sizeLine ∧ Q .none (up H p (.list []))
    | _ :: _ => False
  | .values => match vs with
    | [] => atD o H fun p _ => ∀ z, H z = none → Q (.ref z) (up H z (.vals p))
    | _ :: _ => False
  | _ => False
noncomputable def Zan (H : Zaa) : AV → Option (List AV)
  | .ref a => match H a with
    | some (.list xs) => some xs
    | some (.tuple xs) => some xs
    | some (.range lo hi) => some ((List.range (hi - lo).toNat).map fun (k : Nat) => AV.int (lo + k))
    | _ => none
  | .str s => some (s.cps.toList.map fun ch => AV.str ⟨#[ch]⟩)
  | _ => none
noncomputable def Zc4 (H H' : Zaa) : AV → Prop
  | .ref a => H' a = H a
  | _ => True
noncomputable def WFor (QN : VV → Zaa → Prop) (stp : AV → (VV → Zaa → Prop) → VV → Zaa → Prop) (v : AV) (V : VV) (H : Zaa) : Prop :=
  ∃ xs, Zan H v = some xs ∧ ∃ I : Nat → VV → Zaa → Prop, I 0 V H ∧
    ∀ k V' H', I k V' H' → Zc4 H H' v ∧ (k = xs.length → QN V' H') ∧ ∀ x, xs[k]? = some x → stp x (I (k + 1)) V' H'
noncomputable def Zqi (QN : VV → Zaa → Prop) (tst : (Bool → Zaa → Prop) → VV → Zaa → Prop) (bd : (VV → Zaa → Prop) → VV → Zaa → Prop) (V : VV) (H : Zaa) : Prop :=
  ∃ I : Nat → VV → Zaa → Prop, (∃ n, I n V H) ∧ ∀ n V' H', I n V' H' → tst (fun b H'' => if b then bd (fun V2 H₂ => ∃ m, m < n ∧ I m V2 H₂) V' H'' else QN V' H'') V' H'
noncomputable def Zkj (Q : AV → Zaa → Prop) (stp : AV → (Option AV → Zaa → Prop) → Zaa → Prop) (v : AV) (H : Zaa) : Prop :=
  ∃ xs, Zan H v = some xs ∧ xs.length ≤ sizeLine ∧ ∃ I : Nat → List AV → Zaa → Prop, I 0 [] H ∧
    ∀ k acc H', I k acc H' → Zc4 H H' v ∧ (k = xs.length → ∀ a, H' a = none → Q (.ref a) (up H' a (.list acc))) ∧
      ∀ x, xs[k]? = some x → stp x (fun r H'' => I (k + 1) (acc ++ r.toList) H'') H'
noncomputable def Zbi (k : Nat) (x : AV) (H : Zaa) (Q : List AV → Prop) : Prop :=
  match x with
  | .ref a => match H a with
    | some (.tuple xs) => xs.length = k ∧ Q xs
    | some (.list xs) => xs.length = k ∧ Q xs
    | _ => False
  | _ => False
noncomputable def Zhy (V : VV) : List Nat → List AV → VV
  | i :: is, x :: xs => Zhy (V.set i (some x)) is xs
  | _, _ => V
noncomputable def wtg (t : Tg) (x : AV) (V : VV) (H : Zaa) (Q : VV → Prop) : Prop :=
  match t with
  | .var i => i < V.length ∧ Q (V.set i (some x))
  | .tup is => Zbi is.length x H fun xs => Q (Zhy V is xs)
noncomputable def bmOn (m : BM) (x : AV) (H : Zaa) : Prop :=
  match x with
  | .str _ => m = .upper
  | .ref p => match H p with
    | some (.list _) => m = .append ∨ m = .clear ∨ m = .index ∨ m = .count
    | some (.dict _ _) => m = .values ∨ m = .pop
    | _ => False
  | _ => False
structure Gx where
  c : Cx
  n : Nat
  md : Bool
noncomputable def Zqo (P : Pg) (n : String) (x : AV) (Q : AV → Zaa → Prop) (H : Zaa) : Prop := match x with
  | .ref p => (match H p with
    | some (.inst cl es) => P.attrs.contains (cl, n) = true ∧ (match Zd0 es n with | some v => Q v H | none => False)
    | some (.book B) => n = "day" ∧ P.attrs.contains ("Book", "day") = true ∧ Q (.int B.day) H
    | _ => False)
  | _ => False
noncomputable def Zql (P : Pg) (m : String) (x : AV) (K : String → Addr → Zaa → Prop) (H : Zaa) : Prop := match x with
  | .ref p => (match H p with
    | some (.inst cl es) => P.meths.contains (cl, m) = true ∧ Zd0 es m = none ∧ K (cl ++ "." ++ m) p H
    | some (.book _) => P.meths.contains ("Book", m) = true ∧ bookAttrs.contains m = false ∧ K ("Book." ++ m) p H
    | _ => False)
  | _ => False
noncomputable def wisi (P : Pg) (ty : String) (x : AV) (Q : AV → Zaa → Prop) (H : Zaa) : Prop := match Zcb P H x ty with
  | some b => Q (.bool b) H
  | none => False
noncomputable def Zwy (o j x : AV) (Q : Zaa → Prop) (H : Zaa) : Prop := match o, j with
  | .ref p, .str k => (match H p with
    | some (.dict _ es) => es.length ≤ sizeLine ∧ ∀ ep, Q (up H p (.dict ep (putS es k x)))
    | _ => False)
  | .ref p, .int j => (match H p with
    | some (.list xs) => 0 ≤ j ∧ j < xs.length ∧ xs.length < 2 ^ 62 ∧ Q (up H p (.list (xs.set j.toNat x)))
    | _ => False)
  | _, _ => False
noncomputable def Zwz (P : Pg) (n : String) (o x : AV) (Q : Zaa → Prop) (H : Zaa) : Prop := match o with
  | .ref p => (match H p with
    | some (.inst cl es) => P.attrs.contains (cl, n) = true ∧ es.length ≤ 100 ∧ Q (up H p (.inst cl (putA es n x)))
    | _ => False)
  | _ => False
mutual
noncomputable def wpX (g : Gx) : X → VV → (AV → Zaa → Prop) → (String → Zaa → Prop) → Zaa → Prop
  | .lit v, _, Q, _, H => Q v H
  | .var i, V, Q, _, H => match V[i]? with
    | some (some v) => Q v H
    | _ => False
  | .glob n, _, Q, _, H => match g.c.P.consts.lookup n with
    | some v => Q v H
    | none => False
  | .bin op a b, V, Q, E, H => wpX g a V (fun x H => wpX g b V (fun y H => wbin op x y Q H) E H) E H
  | .neg a, V, Q, E, H => wpX g a V (fun x H => match x with | .int i => Q (.int (-i)) H | _ => False) E H
  | .not a, V, Q, E, H => wpX g a V (fun x H => Zbh x H fun b => Q (.bool (!b)) H) E H
  | .ao isAnd xs, V, Q, E, H => wpAO g isAnd xs V Q E H
  | .cmp op a b, V, Q, E, H => wpX g a V (fun x H => wpX g b V (fun y H => wcmp op x y Q H) E H) E H
  | .cmp2 op1 op2 a b d, V, Q, E, H => wpX g a V (fun x H => wpX g b V (fun y H => wcmp op1 x y (fun r H => Zbh r H fun t =>
      if t then wpX g d V (fun z H => wcmp op2 y z Q H) E H else Q r H) H) E H) E H
  | .sub a i, V, Q, E, H => wpX g a V (fun x H => wpX g i V (fun y H => wsub x y Q H) E H) E H
  | .slice a lo hi st, V, Q, E, H => wpX g a V (fun x H => wpO g lo V (fun l H => wpO g hi V (fun u H => wpO g st V (fun t H => Zgw x l u t Q H) E H) E H) E H) E H
  | .attr a n, V, Q, E, H => wpX g a V (fun x H => Zqo g.c.P n x Q H) E H
  | .call f xs, V, Q, E, H => wpXs g xs V (fun vs H => CallOK g.c g.n g.md f vs Q E H) E H
  | .new cl xs, V, Q, E, H => wpXs g xs V (fun vs H => ∀ a, H a = none → CallOK g.c g.n g.md (cl ++ ".__init__") (.ref a :: vs) (fun r H => r = .none ∧ Q (.ref a) H) E (up H a (.inst cl []))) E H
  | .meth a m xs, V, Q, E, H => wpX g a V (fun x H => Zql g.c.P m x (fun f p H => wpXs g xs V (fun vs H => CallOK g.c g.n g.md f (.ref p :: vs) Q E H) E H) H) E H
  | .bm a m xs, V, Q, E, H => wpX g a V (fun x H => bmOn m x H ∧ wpXs g xs V (fun vs H => wbm x m vs Q H) E H) E H
  | .prim f xs, V, Q, E, H => wpXs g xs V (fun vs H => Zd8 g.md f vs Q H) E H
  | .isinst a ty, V, Q, E, H => wpX g a V (fun x H => wisi g.c.P ty x Q H) E H
  | .list xs, V, Q, E, H => wpXs g xs V (fun vs H => ∀ a, H a = none → Q (.ref a) (up H a (.list vs))) E H
  | .tuple xs, V, Q, E, H => wpXs g xs V (fun vs H => ∀ a, H a = none → Q (.ref a) (up H a (.tuple vs))) E H
  | .dict ks vs, V, Q, E, H => match ks, vs with
    | [], [] => ∀ a, H a = none → Q (.ref a) (up H a (.dict 0 []))
    | [k], [v] => wpX g k V (fun k H => wpX g v V (fun v H => match k with | .str k => ∀ a ep, H a = none → Q (.ref a) (up H a (.dict ep [(k, v)])) | _ => False) E H) E H
    | _, _ => False
  | .comp e k tup it c, V, Q, E, H => g.md = true ∧ wpX g it V (fun v H => Zkj Q (fun x nx H =>
      if tup then Zbi k x H fun xs => wpC g c (V ++ xs.map some) (fun b H => if b then wpX g e (V ++ xs.map some) (fun y H => nx (some y) H) (fun _ _ => False) H else nx none H) (fun _ _ => False) H
      else wpC g c (V ++ [some x]) (fun b H => if b then wpX g e (V ++ [some x]) (fun y H => nx (some y) H) (fun _ _ => False) H else nx none H) (fun _ _ => False) H) v H) E H
noncomputable def wpXs (g : Gx) : List X → VV → (List AV → Zaa → Prop) → (String → Zaa → Prop) → Zaa → Prop
  | [], _, Q, _, H => Q [] H
  | x :: r, V, Q, E, H => wpX g x V (fun v H => wpXs g r V (fun vs H => Q (v :: vs) H) E H) E H
noncomputable def wpAO (g : Gx) (isAnd : Bool) : List X → VV → (AV → Zaa → Prop) → (String → Zaa → Prop) → Zaa → Prop
  | [], _, _, _, _ => False
  | x :: r, V, Q, E, H => wpX g x V (fun v H => match r with
      | [] => Q v H
      | _ :: _ => Zbh v H fun b => if b = isAnd then wpAO g isAnd r V Q E H else Q v H) E H
noncomputable def wpO (g : Gx) : Option X → VV → (Option AV → Zaa → Prop) → (String → Zaa → Prop) → Zaa → Prop
  | none, _, Q, _, H => Q none H
  | some x, V, Q, E, H => wpX g x V (fun v H => Q (some v) H) E H
noncomputable def wpC (g : Gx) : Option X → VV → (Bool → Zaa → Prop) → (String → Zaa → Prop) → Zaa → Prop
  | none, _, Q, _, H => Q true H
  | some x, V, Q, E, H => wpX g x V (fun v H => Zbh v H fun b => Q b H) E H
end
noncomputable def wpT (g : Gx) (t : T) (x : AV) (V : VV) (Q : VV → Zaa → Prop) (E : String → Zaa → Prop) (H : Zaa) : Prop :=
  match t with
  | .var i => i < V.length ∧ Q (V.set i (some x)) H
  | .tup is => g.md = true ∧ Zbi is.length x H fun xs => Q (Zhy V is xs) H
  | .sub a i => wpX g a V (fun o H => wpX g i V (fun j H => Zwy o j x (Q V) H) E H) E H
  | .attr a n => wpX g a V (fun o H => Zwz g.c.P n o x (Q V) H) E H
noncomputable def Zdj (P : Pg) (cl c : String) : Bool := ((P.excs.lookup cl).map (·.contains c)).getD false
mutual
noncomputable def wpS (g : Gx) : S → (VV → Zaa → Prop) → (AV → Zaa → Prop) → (String → VV → Zaa → Prop) → VV → Zaa → Prop
  | .assign t e, QN, _, E, V, H => wpX g e V (fun x H => wpT g t x V QN (fun cl H => E cl V H) H) (fun cl H => E cl V H) H
  | .expr e, QN, _, E, V, H => wpX g e V (fun _ H => QN V H) (fun cl H => E cl V H) H
  | .ret e, _, QR, E, V, H => wpX g e V QR (fun cl H => E cl V H) H
  | .ite c a b, QN, QR, E, V, H => wpX g c V (fun x H => Zbh x H fun t => if t then wpSs g a QN QR E V H else wpSs g b QN QR E V H) (fun cl H => E cl V H) H
  | .while c body, QN, QR, E, V, H => g.md = true ∧ Zqi QN (fun q V H => wpX g c V (fun x H => Zbh x H fun t => q t H) (fun cl H => E cl V H) H)
      (fun q V H => wpSs g body q QR E V H) V H
  | .for t it body, QN, QR, E, V, H => g.md = true ∧ wpX g it V (fun v H => WFor QN (fun x nx V H => wtg t x V H fun V => wpSs g body nx QR E V H) v V H) (fun cl H => E cl V H) H
  | .raise cl _, _, _, E, V, H => g.md = true ∧ E cl V H
  | .try body hs, QN, QR, E, V, H => g.md = true ∧ wpSs g body QN QR (fun cl V H => wpHs g hs cl QN QR E V H) V H
  | .pass, QN, _, _, V, H => QN V H
noncomputable def wpSs (g : Gx) : List S → (VV → Zaa → Prop) → (AV → Zaa → Prop) → (String → VV → Zaa → Prop) → VV → Zaa → Prop
  | [], QN, _, _, V, H => QN V H
  | s :: r, QN, QR, E, V, H => wpS g s (fun V H => wpSs g r QN QR E V H) QR E V H
noncomputable def wpHs (g : Gx) : List Hd → String → (VV → Zaa → Prop) → (AV → Zaa → Prop) → (String → VV → Zaa → Prop) → VV → Zaa → Prop
  | [], _, _, _, _, _, _ => False
  | h :: r, cl, QN, QR, E, V, H => wpH g h cl (wpHs g r cl QN QR E V H) QN QR E V H
noncomputable def wpH (g : Gx) : Hd → String → Prop → (VV → Zaa → Prop) → (AV → Zaa → Prop) → (String → VV → Zaa → Prop) → VV → Zaa → Prop
  | .mk c nm b, cl, nope, QN, QR, _, V, H =>
    if Zdj g.c.P cl c then
      (match nm with
      | none => wpSs { g with md := false } b QN QR (fun _ _ _ => False) V H
      | some i => ∀ a, H a = none → i < V.length ∧ wpSs { g with md := false } b (fun V H => QN (V.set i none) H) QR (fun _ _ _ => False) (V.set i (some (.ref a))) (up H a (.exc cl)))
    else nope
end
section
variable {g : Gx} {V : VV} {Q : AV → Zaa → Prop} {E : String → Zaa → Prop} {H : Zaa} {QL : List AV → Zaa → Prop}
theorem v_0 {x : Option AV} {r : VV} : (x :: r)[0]? = some x := rfl
theorem Zag {v : AV} : wpX g (.lit v) V Q E H = Q v H := rfl
theorem Zae {i : Nat} : wpX g (.var i) V Q E H = (match V[i]? with | some (some v) => Q v H | _ => False) := rfl
theorem Zaw {op : Operator} {a b : X} : wpX g (.bin op a b) V Q E H = wpX g a V (fun x H => wpX g b V (fun y H => wbin op x y Q H) E H) E H := rfl
theorem Zbm {a : X} : wpX g (.neg a) V Q E H = wpX g a V (fun x H => match x with | .int i => Q (.int (-i)) H | _ => False) E H := rfl
theorem Za9 {a : X} : wpX g (.not a) V Q E H = wpX g a V (fun x H => Zbh x H fun b => Q (.bool (!b)) H) E H := rfl
theorem x_ao {b : Bool} {xs : List X} : wpX g (.ao b xs) V Q E H = wpAO g b xs V Q E H := rfl
theorem Zak {op : CmpOp} {a b : X} : wpX g (.cmp op a b) V Q E H = wpX g a V (fun x H => wpX g b V (fun y H => wcmp op x y Q H) E H) E H := rfl
theorem Za3 {o₁ o₂ : CmpOp} {a b d : X} : wpX g (.cmp2 o₁ o₂ a b d) V Q E H = wpX g a V (fun x H => wpX g b V (fun y H => wcmp o₁ x y (fun r H => Zbh r H fun t => if t then wpX g d V (fun z H => wcmp o₂ y z Q H) E H else Q r H) H) E H) E H := rfl
theorem Zau {a i : X} : wpX g (.sub a i) V Q E H = wpX g a V (fun x H => wpX g i V (fun y H => wsub x y Q H) E H) E H := rfl
theorem Zav {a : X} {lo hi st : Option X} : wpX g (.slice a lo hi st) V Q E H = wpX g a V (fun x H => wpO g lo V (fun l H => wpO g hi V (fun u H => wpO g st V (fun t H => Zgw x l u t Q H) E H) E H) E H) E H := rfl
theorem Za1 {n : String} : wpX g (.glob n) V Q E H = (match g.c.P.consts.lookup n with | some v => Q v H | none => False) := rfl
theorem Zal {f : String} {xs : List X} : wpX g (.call f xs) V Q E H = wpXs g xs V (fun vs H => CallOK g.c g.n g.md f vs Q E H) E H := rfl
theorem Zar {f : Pr} {xs : List X} : wpX g (.prim f xs) V Q E H = wpXs g xs V (fun vs H => Zd8 g.md f vs Q H) E H := rfl
theorem x_bm {a : X} {m : BM} {xs : List X} : wpX g (.bm a m xs) V Q E H = wpX g a V (fun x H => bmOn m x H ∧ wpXs g xs V (fun vs H => wbm x m vs Q H) E H) E H := rfl
theorem Zbl {a : X} {ty : String} : wpX g (.isinst a ty) V Q E H = wpX g a V (fun x H => match Zcb g.c.P H x ty with | some b => Q (.bool b) H | none => False) E H := rfl
theorem Zam {xs : List X} : wpX g (.list xs) V Q E H = wpXs g xs V (fun vs H => ∀ a, H a = none → Q (.ref a) (up H a (.list vs))) E H := rfl
theorem Zbg {xs : List X} : wpX g (.tuple xs) V Q E H = wpXs g xs V (fun vs H => ∀ a, H a = none → Q (.ref a) (up H a (.tuple vs))) E H := rfl
theorem Zch {cl : String} {xs : List X} : wpX g (.new cl xs) V Q E H = wpXs g xs V (fun vs H => ∀ a, H a = none → CallOK g.c g.n g.md (cl ++ ".__init__") (.ref a :: vs) (fun r H => r = .none ∧ Q (.ref a) H) E (up H a (.inst cl []))) E H := rfl
theorem Zap : wpX g (.dict [] []) V Q E H = (∀ a, H a = none → Q (.ref a) (up H a (.dict 0 []))) := rfl
theorem Zaf : wpXs g [] V QL E H = QL [] H := rfl
theorem Zac {x : X} {r : List X} : wpXs g (x :: r) V QL E H = wpX g x V (fun v H => wpXs g r V (fun vs H => QL (v :: vs) H) E H) E H := rfl
theorem Za5 {b : Bool} {x : X} : wpAO g b [x] V Q E H = wpX g x V Q E H := rfl
theorem Zat {b : Bool} {x y : X} {r : List X} : wpAO g b (x :: y :: r) V Q E H = wpX g x V (fun v H => Zbh v H fun t => if t = b then wpAO g b (y :: r) V Q E H else Q v H) E H := rfl
theorem Zb7 {QO : Option AV → Zaa → Prop} : wpO g none V QO E H = QO none H := rfl
theorem Zbs {QO : Option AV → Zaa → Prop} {x : X} : wpO g (some x) V QO E H = wpX g x V (fun v H => QO (some v) H) E H := rfl
theorem Zbp {QC : Bool → Zaa → Prop} : wpC g none V QC E H = QC true H := rfl
theorem Zbt {QC : Bool → Zaa → Prop} {x : X} : wpC g (some x) V QC E H = wpX g x V (fun v H => Zbh v H fun b => QC b H) E H := rfl
end
section
variable {g : Gx} {V : VV} {QN : VV → Zaa → Prop} {QR : AV → Zaa → Prop} {E : String → VV → Zaa → Prop} {EE : String → Zaa → Prop} {H : Zaa} {x : AV}
theorem tv {i : Nat} : wpT g (.var i) x V QN EE H = (i < V.length ∧ QN (V.set i (some x)) H) := rfl
theorem tsub {a i : X} : wpT g (.sub a i) x V QN EE H = wpX g a V (fun o H => wpX g i V (fun j H => match o, j with
      | .ref p, .str k => (match H p with
        | some (.dict _ es) => es.length ≤ sizeLine ∧ ∀ ep, QN V (up H p (.dict ep (putS es k x)))
        | _ => False)
      | .ref p, .int j => (match H p with
        | some (.list xs) => 0 ≤ j ∧ j < xs.length ∧ xs.length < 2 ^ 62 ∧ QN V (up H p (.list (xs.set j.toNat x)))
        | _ => False)
      | _, _ => False) EE H) EE H := rfl
theorem tattr {a : X} {n : String} : wpT g (.attr a n) x V QN EE H = wpX g a V (fun o H => match o with
      | .ref p => (match H p with
        | some (.inst cl es) => g.c.P.attrs.contains (cl, n) = true ∧ es.length ≤ 100 ∧ QN V (up H p (.inst cl (putA es n x)))
        | _ => False)
      | _ => False) EE H := rfl
theorem ttup {is : List Nat} : wpT g (.tup is) x V QN EE H = (g.md = true ∧ Zbi is.length x H fun xs => QN (Zhy V is xs) H) := rfl
theorem Zao {e : X} : wpS g (.expr e) QN QR E V H = wpX g e V (fun _ H => QN V H) (fun cl H => E cl V H) H := rfl
theorem Za6 {cl : String} {m : Str} : wpS g (.raise cl m) QN QR E V H = (g.md = true ∧ E cl V H) := rfl
theorem Zba {t : Tg} {it : X} {b : List S} : wpS g (.for t it b) QN QR E V H = (g.md = true ∧ wpX g it V (fun v H => WFor QN (fun x nx V H => wtg t x V H fun V => wpSs g b nx QR E V H) v V H) (fun cl H => E cl V H) H) := rfl
theorem Zbq {cn : X} {b : List S} : wpS g (.while cn b) QN QR E V H = (g.md = true ∧ Zqi QN (fun q V H => wpX g cn V (fun x H => Zbh x H fun t => q t H) (fun cl H => E cl V H) H) (fun q V H => wpSs g b q QR E V H) V H) := rfl
theorem Zdf {b : List S} {hs : List Hd} : wpS g (.try b hs) QN QR E V H = (g.md = true ∧ wpSs g b QN QR (fun cl V H => wpHs g hs cl QN QR E V H) V H) := rfl
end
section
variable {g : Gx} {V : VV} {Q : AV → Zaa → Prop} {E : String → Zaa → Prop} {H : Zaa}
theorem Za4 {a : X} {n : String} : wpX g (.attr a n) V Q E H = wpX g a V (fun x H => match x with
      | .ref p => (match H p with
        | some (.inst cl es) => g.c.P.attrs.contains (cl, n) = true ∧ (match Zd0 es n with | some v => Q v H | none => False)
        | some (.book B) => n = "day" ∧ g.c.P.attrs.contains ("Book", "day") = true ∧ Q (.int B.day) H
        | _ => False)
      | _ => False) E H := rfl
theorem Zbc {a : X} {m : String} {xs : List X} : wpX g (.meth a m xs) V Q E H = wpX g a V (fun x H => match x with
      | .ref p => (match H p with
        | some (.inst cl es) => g.c.P.meths.contains (cl, m) = true ∧ Zd0 es m = none ∧ wpXs g xs V (fun vs H => CallOK g.c g.n g.md (cl ++ "." ++ m) (.ref p :: vs) Q E H) E H
        | some (.book _) => g.c.P.meths.contains ("Book", m) = true ∧ bookAttrs.contains m = false ∧ wpXs g xs V (fun vs H => CallOK g.c g.n g.md ("Book." ++ m) (.ref p :: vs) Q E H) E H
        | _ => False)
      | _ => False) E H := rfl
theorem Za7 {k v : X} : wpX g (.dict [k] [v]) V Q E H = wpX g k V (fun k H => wpX g v V (fun v H => match k with | .str k => ∀ a ep, H a = none → Q (.ref a) (up H a (.dict ep [(k, v)])) | _ => False) E H) E H := rfl
theorem Zbd {e : X} {k : Nat} {tup : Bool} {it : X} {c : Option X} : wpX g (.comp e k tup it c) V Q E H = (g.md = true ∧ wpX g it V (fun v H => Zkj Q (fun x nx H =>
      if tup then Zbi k x H fun xs => wpC g c (V ++ xs.map some) (fun b H => if b then wpX g e (V ++ xs.map some) (fun y H => nx (some y) H) (fun _ _ => False) H else nx none H) (fun _ _ => False) H
      else wpC g c (V ++ [some x]) (fun b H => if b then wpX g e (V ++ [some x]) (fun y H => nx (some y) H) (fun _ _ => False) H else nx none H) (fun _ _ => False) H) v H) E H) := rfl
end
section
variable {g : Gx} {QN : VV → Zaa → Prop} {QR : AV → Zaa → Prop} {E : String → VV → Zaa → Prop} {V : VV} {H : Zaa}
theorem Zax {c : X} {a b : List S} : wpS g (.ite c a b) QN QR E V H = wpX g c V (fun x H => Zbh x H fun t => if t then wpSs g a QN QR E V H else wpSs g b QN QR E V H) (fun cl H => E cl V H) H := rfl
theorem Za8 {e : X} : wpS g (.ret e) QN QR E V H = wpX g e V QR (fun cl H => E cl V H) H := rfl
theorem Zaj {t : T} {e : X} : wpS g (.assign t e) QN QR E V H = wpX g e V (fun x H => wpT g t x V QN (fun cl H => E cl V H) H) (fun cl H => E cl V H) H := rfl
theorem w_st {s : S} {r : List S} (h : ∀ K : VV → Zaa → Prop, (∀ V H, wpSs g r QN QR E V H → K V H) → wpS g s K QR E V H) : wpSs g (s :: r) QN QR E V H := h _ fun _ _ h => h
theorem Zdq : wpSs g [] QN QR E V H = QN V H := rfl
theorem Zas {s : S} {r : List S} : wpSs g (s :: r) QN QR E V H = wpS g s (fun V H => wpSs g r QN QR E V H) QR E V H := rfl
theorem Zcx : wpS g .pass QN QR E V H = QN V H := rfl
theorem Ziz {h : Hd} {r : List Hd} {cl : String} : wpHs g (h :: r) cl QN QR E V H = wpH g h cl (wpHs g r cl QN QR E V H) QN QR E V H := rfl
theorem Zua {c : String} {nm : Option Nat} {b : List S} {cl : String} {N : Prop} : wpH g (.mk c nm b) cl N QN QR E V H = (if Zdj g.c.P cl c then
      (match nm with
      | none => wpSs { g with md := false } b QN QR (fun _ _ _ => False) V H
      | some i => ∀ a, H a = none → i < V.length ∧ wpSs { g with md := false } b (fun V H => QN (V.set i none) H) QR (fun _ _ _ => False) (V.set i (some (.ref a))) (up H a (.exc cl)))
    else N) := rfl
end
section
variable {md : Bool} {Q : AV → Zaa → Prop} {H : Zaa} {a p : Addr} {v : AV}
theorem Zjk {s : Str} : Zd8 md .len [.str s] Q H = (s.length < 2 ^ 62 ∧ Q (.int s.length) H) := rfl
theorem Ze1 {b : Int} : Zd8 md .range [.int b] Q H = ((-(2 ^ 62) < b ∧ b < 2 ^ 62) ∧ ∀ z, H z = none → Q (.ref z) (up H z (.range 0 b))) := rfl
theorem Zfh {a b : Int} : Zd8 md .range [.int a, .int b] Q H = ((-(2 ^ 62) < a ∧ a < 2 ^ 62 ∧ -(2 ^ 62) < b ∧ b < 2 ^ 62) ∧ ∀ z, H z = none → Q (.ref z) (up H z (.range a b))) := rfl
theorem Zoh {b : Bool} : Zd8 md .int [.bool b] Q H = Q (.int (if b then 1 else 0)) H := rfl
theorem Zlu {s : Str} {i : Int} : wsub (.str s) (.int i) Q H = (0 ≤ i ∧ i < 2 ^ 63 ∧ ∃ ch, s.cps[i.toNat]? = some ch ∧ Q (.str ⟨#[ch]⟩) H) := rfl
theorem Zgb : Zd8 md .len [.ref a] Q H = (match H a with
      | some (.list xs) => xs.length < 2 ^ 62 ∧ Q (.int xs.length) H
      | some (.tuple xs) => xs.length < 2 ^ 62 ∧ Q (.int xs.length) H
      | some (.dict _ es) => es.length < 2 ^ 62 ∧ Q (.int es.length) H
      | some (.script ns) => ns.length < 2 ^ 62 ∧ Q (.int ns.length) H
      | _ => False) := rfl
theorem Ze2 : Zd8 md .list [.ref a] Q H = (match H a with
      | some (.list xs) => xs.length ≤ sizeLine ∧ ∀ z, H z = none → Q (.ref z) (up H z (.list xs))
      | some (.tuple xs) => xs.length ≤ sizeLine ∧ ∀ z, H z = none → Q (.ref z) (up H z (.list xs))
      | some (.dict _ es) => md = true ∧ es.length ≤ sizeLine ∧ ∀ z, H z = none → Q (.ref z) (up H z (.list (es.map fun e => .str e.1)))
      | some (.vals d) => (match H d with
        | some (.dict _ es) => md = true ∧ es.length ≤ sizeLine ∧ ∀ z, H z = none → Q (.ref z) (up H z (.list (es.map (·.2))))
        | _ => False)
      | _ => False) := rfl
theorem Zhd : Zd8 md .sum [.ref a] Q H = (md = true ∧ (match H a with
      | some (.list xs) => ∃ ns : List Int, xs = ns.map .int ∧ Q (.int ns.sum) H
      | _ => False)) := rfl
theorem Zxp : wbm (.ref p) .append [v] Q H = (match H p with
    | some (.list xs) => xs.length ≤ sizeLine ∧ Q .none (up H p (.list (xs ++ [v])))
    | _ => False) := rfl
theorem Zvv : wbm (.ref p) .clear [] Q H = (match H p with
    | some (.list xs) => xs.length ≤ sizeLine ∧ Q .none (up H p (.list []))
    | _ => False) := rfl
theorem Zvu : wbm (.ref p) .values [] Q H = (match H p with
    | some (.dict _ _) => ∀ z, H z = none → Q (.ref z) (up H z (.vals p))
    | _ => False) := rfl
theorem Zut {P : Bool → Prop} : Zbh (.ref a) H P = (match H a with
    | some (.list xs) => xs.length < 2 ^ 62 ∧ P (!xs.isEmpty)
    | some (.tuple xs) => xs.length < 2 ^ 62 ∧ P (!xs.isEmpty)
    | _ => False) := rfl
theorem Zg2 {i : Int} : wsub (.ref a) (.int i) Q H = (match H a with
    | some (.list xs) => ∃ j v, Zgk xs.length i = some j ∧ i < 2 ^ 63 ∧ -(2 ^ 63) ≤ i ∧ xs[j]? = some v ∧ Q v H
    | some (.tuple xs) => ∃ j v, Zgk xs.length i = some j ∧ i < 2 ^ 63 ∧ -(2 ^ 63) ≤ i ∧ xs[j]? = some v ∧ Q v H
    | some (.script ns) => 0 ≤ i ∧ i < 2 ^ 63 ∧ ∃ n, ns[i.toNat]? = some n ∧ Q (.int n) H
    | _ => False) := rfl
theorem Zf9 {k : Str} : wsub (.ref a) (.str k) Q H = (match H a with
    | some (.dict _ es) => ∃ v, Zb0 es k = some v ∧ Q v H
    | _ => False) := rfl
theorem Zsh {lo hi st : Option AV} : Zgw (.ref a) lo hi st Q H = (match H a with
    | some (.list xs) => ∃ l u t, Zjg lo = some l ∧ Zjg hi = some u ∧ Zjg st = some t ∧ t ≠ some 0 ∧ xs.length ≤ sizeLine ∧ ∀ z, H z = none → Q (.ref z) (up H z (.list (Zfc xs l u t)))
    | _ => False) := rfl
theorem Zd4 {no : Bool} {x : AV} : win no x (.ref a) Q H = (match H a with
    | some (.list ys) => ∃ d ds, RD H x d ∧ RDs H ys ds ∧ okD d ∧ Zdi ds = true ∧ Q (.bool (nt no (ds.any fun y => PyData.eqv y d))) H
    | some (.dict _ es) => match x with
      | .str k => Q (.bool (nt no (Zb0 es k).isSome)) H
      | _ => False
    | _ => False) := rfl
theorem Zlc {no : Bool} {x : AV} {s : Str} : win no x (.str s) Q H = (match x with
    | .str k => ∃ ch, k = ⟨#[ch]⟩ ∧ Q (.bool (nt no (s.cps.toList.contains ch))) H
    | _ => False) := rfl
end
theorem Zwl {x y : Str} : PyData.eqv (.str x) (.str y) = (x == y) := rfl
theorem Zxx {x y : List PyData} : PyData.eqv (.list x) (.list y) = PyData.eqvAll x y := rfl
theorem Zxy {x y : PyData} {r q : List PyData} : PyData.eqvAll (x :: r) (y :: q) = (PyData.eqv x y && PyData.eqvAll r q) := rfl
end Mine
end
section
open PySem PySem.W PyProof.Rows PySem.Spec PySem.SeqAt
namespace Mine
theorem lts {h : Heap} {a : Addr} {o : Obj} (e : h.get? a = some o) : @LT.lt Nat _ a h.objs.size := Heap.lt_size e
theorem leN {a b : Nat} (h : a ≤ b) : a ≤ b := h
theorem Zad {H : Zaa} {a : Addr} {o : AObj} : up H a o a = some o := by simp [up]
theorem Zab {H : Zaa} {a b : Addr} {o : AObj} (h : b ≠ a) : up H a o b = H b := by simp [up, h]
theorem Zaq {R : RR} {a : Addr} {r : Res} : rup R a r a = some r := by simp [rup]
theorem Zah {R : RR} {a b : Addr} {r : Res} (h : b ≠ a) : rup R a r b = R b := by simp [rup, h]
theorem Zme {h : Heap} {a : Addr} (e : h.objs.size ≤ a) : h.get? a = none := by
  cases q : h.get? a with
  | none => rfl
  | some o => have := lts q; have := leN e; omega
theorem abv {c : Cx} {a : Addr} {o : AObj} (h : c.base.objs.size ≤ a) : Abv c a o := ⟨fun _ => Zme h, fun _ => h⟩
theorem VRs.length {as vs} (h : VRs as vs) : as.length = vs.length := by
  induction h with
  | nil => rfl
  | cons _ _ ih => simp [ih]
theorem VRs.get {as vs} (h : VRs as vs) : ∀ {i : Nat} {a : AV}, as[i]? = some a → ∃ v, vs[i]? = some v ∧ VR a v := by
  induction h with
  | nil => intro i a e; simp at e
  | cons ha _ ih =>
    intro i a e
    cases i with
    | zero => simp at e; subst e; exact ⟨_, by simp, ha⟩
    | succ i => simp at e; obtain ⟨v, h1, h2⟩ := ih e; exact ⟨v, by simpa using h1, h2⟩
theorem VRs.append {as vs bs us} (h : VRs as vs) (k : VRs bs us) : VRs (as ++ bs) (vs ++ us) := by
  induction h with
  | nil => exact k
  | cons ha _ ih => exact .cons ha ih
theorem VRs.one {a v} (h : VR a v) : VRs [a] [v] := .cons h .nil
theorem VRs.drop {as vs} (h : VRs as vs) (n : Nat) : VRs (as.drop n) (vs.drop n) := by
  induction h generalizing n with
  | nil => simp; exact .nil
  | cons ha hr ih => cases n with
    | zero => exact .cons ha hr
    | succ n => exact ih n
theorem VRs.take {as vs} (h : VRs as vs) (n : Nat) : VRs (as.take n) (vs.take n) := by
  induction h generalizing n with
  | nil => simp; exact .nil
  | cons ha hr ih => cases n with
    | zero => exact .nil
    | succ n => exact .cons ha (ih n)
theorem VRs.set {as vs} (h : VRs as vs) {a v} (hv : VR a v) (n : Nat) : VRs (as.set n a) (vs.set n v) := by
  induction h generalizing n with
  | nil => exact .nil
  | cons ha hr ih => cases n with
    | zero => exact .cons hv hr
    | succ n => exact .cons ha (ih n)
theorem ORep.there {c : Cx} {h : Heap} {D : Addr → Addr} {a : Addr} {o : AObj} (r : ORep c h D a o) : ∃ ob, h.get? a = some ob := by
  cases o with
  | book => exact r.elim
  | list => obtain ⟨_, _, e, _⟩ := r; exact ⟨_, e⟩
  | tuple => obtain ⟨_, _, e, _⟩ := r; exact ⟨_, e⟩
  | dict => obtain ⟨_, ⟨_, _, e, _⟩, _⟩ := r; exact ⟨_, e⟩
  | inst => exact ⟨_, r.1⟩
  | range => obtain ⟨_, _, _, _, e⟩ := r; exact ⟨_, e⟩
  | vals => exact ⟨_, r⟩
  | itms => exact ⟨_, r⟩
  | exc => obtain ⟨_, e, _⟩ := r; exact ⟨_, e⟩
  | script => obtain ⟨_, _, e, _⟩ := r; exact ⟨_, e⟩
theorem ORep.agree {c : Cx} {h h' : Heap} {D D' : Addr → Addr} {a : Addr} {o : AObj} (r : ORep c h D a o) (e : ∀ ob, h.get? a = some ob → h'.get? a = some ob)
    (e2 : ∀ cl es, o = .inst cl es → D' a = D a ∧ ∀ ob, h.get? (D a) = some ob → h'.get? (D a) = some ob) : ORep c h' D' a o := by
  cases o with
  | book => exact r.elim
  | list => obtain ⟨vs, n, q, x⟩ := r; exact ⟨vs, n, e _ q, x⟩
  | tuple => obtain ⟨vs, n, q, x⟩ := r; exact ⟨vs, n, e _ q, x⟩
  | dict => obtain ⟨kvs, ⟨o, es, q, x⟩, y⟩ := r; exact ⟨kvs, ⟨o, es, e _ q, x⟩, y⟩
  | inst cl es =>
    obtain ⟨q, ents, n, q2, x⟩ := r
    obtain ⟨d1, d2⟩ := e2 cl es rfl
    exact ⟨by rw [d1]; exact e _ q, ents, n, by rw [d1]; exact d2 _ q2, x⟩
  | range => obtain ⟨z, t, u, v, q⟩ := r; exact ⟨z, t, u, v, e _ q⟩
  | vals => exact e _ r
  | itms => exact e _ r
  | exc => obtain ⟨o, q, x⟩ := r; exact ⟨o, e _ q, x⟩
  | script => obtain ⟨vs, n, q, x⟩ := r; exact ⟨vs, n, e _ q, x⟩
theorem ResAt.agree {h h' : Heap} {b : Addr} {r : Res} (x : ResAt h b r) (e : ∀ ob, h.get? b = some ob → h'.get? b = some ob) : ResAt h' b r := by
  cases r with
  | ns m => obtain ⟨o, es, ep, q, y⟩ := x; exact ⟨o, es, ep, e _ q, y⟩
  | cell v => obtain ⟨o, q, y⟩ := x; exact ⟨o, e _ q, y⟩
  | obj o => exact e _ x
theorem ResAt.there {h : Heap} {b : Addr} {r : Res} (x : ResAt h b r) : ∃ ob, h.get? b = some ob := by
  cases r with
  | ns m => obtain ⟨o, es, ep, q, y⟩ := x; exact ⟨o, q⟩
  | cell v => obtain ⟨o, q, y⟩ := x; exact ⟨o, q⟩
  | obj o => exact ⟨_, x⟩
section
variable {c : Cx} {R R' : RR} {H : Zaa} {h h' : Heap}
theorem St1.weaken (S : St1 c R' H h) (k : ∀ b r, R b = some r → R' b = some r) : St1 c R H h := by
  obtain ⟨s1, s2, s3, D, s4⟩ := S
  have nn : ∀ a, R' a = none → R a = none := fun a e => by
    cases q : R a with
    | none => rfl
    | some r => rw [k a r q] at e; cases e
  exact ⟨s1, s2, fun b r e => s3 b r (k b r e), D, ⟨s4.rep, fun a o e => ⟨(s4.above a o e).1, nn _ (s4.above a o e).2⟩,
    fun a cl es e => ⟨(s4.dict a cl es e).1, nn _ (s4.dict a cl es e).2.1, (s4.dict a cl es e).2.2⟩, s4.inj⟩⟩
theorem St1.keeps (S : St1 c R H h) (k : ∀ b o, h.get? b = some o → h'.get? b = some o) (hs : h.objs.size ≤ h'.objs.size) : St1 c R H h' := by
  obtain ⟨s1, s2, s3, D, s4⟩ := S
  exact ⟨fun b o e => k b o (s1 b o e), Nat.le_trans s2 hs, fun b r e => ⟨(s3 b r e).1, (s3 b r e).2.agree fun _ => k _ _⟩, D,
    ⟨fun a o e => (s4.rep a o e).agree (fun _ => k _ _) fun _ _ _ => ⟨rfl, fun _ => k _ _⟩, s4.above, s4.dict, s4.inj⟩⟩
theorem St1.push (S : St1 c R H h) (o : Obj) : St1 c R H (h.push o) := S.keeps (fun _ _ e => Heap.get?_push_of_some o e) (by rw [Heap.size_push]; lia)
theorem St1.freeH (S : St1 c R H h) {x : Addr} (hx : h.objs.size ≤ x) : H x = none := by
  cases q : H x with
  | none => rfl
  | some o =>
    obtain ⟨D, s4⟩ := S.rep
    obtain ⟨ob, e⟩ := (s4.rep _ _ q).there
    have := lts e; have := leN hx; omega
theorem St1.freeR (S : St1 c R H h) {x : Addr} (hx : h.objs.size ≤ x) : R x = none := by
  cases q : R x with
  | none => rfl
  | some o =>
    obtain ⟨ob, e⟩ := (S.res _ _ q).2.there
    have := lts e; have := leN hx; omega
theorem St1.newObj (S : St1 c R H h) {x : Addr} {o : AObj} (hx : h.objs.size ≤ x) (k : ∀ b ob, h.get? b = some ob → h'.get? b = some ob) (hs : h.objs.size ≤ h'.objs.size)
    (hni : ∀ cl es, o ≠ .inst cl es) (ho : ∀ D, ORep c h' D x o) : H x = none ∧ St1 c R (up H x o) h' := by
  refine ⟨S.freeH hx, ?_⟩
  have hRx := S.freeR hx
  have hb := S.size
  have S' := S.keeps k hs
  obtain ⟨s1, s2, s3, D, s4⟩ := S'
  have hD : ∀ a cl es, H a = some (.inst cl es) → D a ≠ x := fun a cl es e q => by
    obtain ⟨D0, s40⟩ := S.rep
    obtain ⟨q1, ents, n, q2, _⟩ := s4.rep a _ e
    obtain ⟨p1, ents', n', p2, _⟩ := s40.rep a _ e
    have := k _ _ p1
    rw [q1] at this
    have hd : D a = D0 a := by injection this with this; injection this with _ z; exact Option.some.inj z
    have hlt := lts p2; have hx' := leN hx
    rw [← hd, q] at hlt; lia
  refine ⟨s1, s2, s3, D, ⟨fun a ao e => ?_, fun a ao e => ?_, fun a cl es e => ?_, fun a b cl es cl' es' e e' => ?_⟩⟩
  · by_cases q : a = x
    · subst q; rw [Zad] at e; cases e; exact ho D
    · rw [Zab q] at e; exact s4.rep a ao e
  · by_cases q : a = x
    · subst q; exact ⟨abv (by have := leN hx; lia), hRx⟩
    · rw [Zab q] at e; exact s4.above a ao e
  · by_cases q : a = x
    · subst q; rw [Zad] at e; cases e; exact absurd rfl (hni cl es)
    · rw [Zab q] at e
      obtain ⟨y1, y2, y3⟩ := s4.dict a cl es e
      exact ⟨y1, y2, by rw [Zab (hD a cl es e)]; exact y3⟩
  · by_cases q : a = x
    · subst q; rw [Zad] at e; cases e; exact absurd rfl (hni cl es)
    · by_cases q' : b = x
      · subst q'; rw [Zad] at e'; cases e'; exact absurd rfl (hni cl' es')
      · rw [Zab q] at e; rw [Zab q'] at e'; exact s4.inj a b cl es cl' es' e e'
theorem St1.newRes (S : St1 c R H h) {x : Addr} {r : Res} (hx : h.objs.size ≤ x) (k : ∀ b ob, h.get? b = some ob → h'.get? b = some ob) (hs : h.objs.size ≤ h'.objs.size)
    (hr : ResAt h' x r) : R x = none ∧ H x = none ∧ St1 c (rup R x r) H h' := by
  refine ⟨S.freeR hx, S.freeH hx, ?_⟩
  have hHx := S.freeH hx
  have hb := S.size
  obtain ⟨D0, s40⟩ := S.rep
  have S' := S.keeps k hs
  obtain ⟨s1, s2, s3, D, s4⟩ := S'
  have hD : ∀ a cl es, H a = some (.inst cl es) → D a ≠ x := fun a cl es e q => by
    obtain ⟨q1, ents, n, q2, _⟩ := s4.rep a _ e
    obtain ⟨p1, ents', n', p2, _⟩ := s40.rep a _ e
    have := k _ _ p1
    rw [q1] at this
    have hd : D a = D0 a := by injection this with this; injection this with _ z; exact Option.some.inj z
    have hlt := lts p2; have hx' := leN hx
    rw [← hd, q] at hlt; lia
  refine ⟨s1, s2, fun b rr e => ?_, D, ⟨s4.rep, fun a ao e => ?_, fun a cl es e => ?_, s4.inj⟩⟩
  · by_cases q : b = x
    · subst q; rw [Zaq] at e; cases e; exact ⟨by lia, hr⟩
    · rw [Zah q] at e; exact s3 b rr e
  · obtain ⟨y1, y2⟩ := s4.above a ao e
    exact ⟨y1, by rw [Zah (fun q => by rw [q, hHx] at e; cases e)]; exact y2⟩
  · obtain ⟨y1, y2, y3⟩ := s4.dict a cl es e
    exact ⟨y1, by rw [Zah (hD a cl es e)]; exact y2, y3⟩
theorem St1.setRes (S : St1 c R H h) {x : Addr} {r r' : Res} (hx : R x = some r) (hs : Heap.SameBut x h h') (hr : ResAt h' x r') : St1 c (rup R x r') H h' := by
  obtain ⟨s1, s2, s3, D, s4⟩ := S
  have bx : c.base.get? x = none := by
    cases q : c.base.get? x with
    | none => rfl
    | some o => have := lts q; have := leN (s3 x r hx).1; lia
  refine ⟨fun b o e => ?_, by rw [hs.1]; exact s2, fun b rr e => ?_, D, ⟨fun a ao e => ?_, fun a ao e => ?_, fun a cl es e => ?_, s4.inj⟩⟩
  · rw [hs.2 b (fun q => by rw [q, bx] at e; cases e)]; exact s1 b o e
  · by_cases q : b = x
    · subst q; rw [Zaq] at e; cases e; exact ⟨(s3 b r hx).1, hr⟩
    · rw [Zah q] at e; exact ⟨(s3 b rr e).1, (s3 b rr e).2.agree fun ob z => by rw [hs.2 b q]; exact z⟩
  · refine (s4.rep a ao e).agree (fun ob z => ?_) fun cl es eo => ⟨rfl, fun ob z => ?_⟩
    · rw [hs.2 a (fun q => by have := (s4.above a ao e).2; rw [q, hx] at this; cases this)]; exact z
    · subst eo; rw [hs.2 _ (fun q => by have := (s4.dict a cl es e).2.1; rw [q, hx] at this; cases this)]; exact z
  · obtain ⟨y1, y2⟩ := s4.above a ao e
    exact ⟨y1, by rw [Zah (fun q => by rw [q, hx] at y2; cases y2)]; exact y2⟩
  · obtain ⟨y1, y2, y3⟩ := s4.dict a cl es e
    exact ⟨y1, by rw [Zah (fun q => by rw [q, hx] at y2; cases y2)]; exact y2, y3⟩
theorem St1.setObj (S : St1 c R H h) {x : Addr} {o o' : AObj} (hx : H x = some o) (hni' : ∀ cl es, o' ≠ .inst cl es) (hs : Heap.SameBut x h h')
    (ho : ∀ D, ORep c h' D x o') (hne : o.isX = false := by rfl) : St1 c R (up H x o') h' := by
  obtain ⟨s1, s2, s3, D, s4⟩ := S
  have bx : c.base.get? x = none := Zme ((s4.above x _ hx).1.2 hne)
  refine ⟨fun b o e => ?_, by rw [hs.1]; exact s2, fun b rr e => ?_, D, ⟨fun a ao e => ?_, fun a ao e => ?_, fun a cl es e => ?_, fun a b cl es cl' es' e e' => ?_⟩⟩
  · rw [hs.2 b (fun q => by rw [q, bx] at e; cases e)]; exact s1 b o e
  · exact ⟨(s3 b rr e).1, (s3 b rr e).2.agree fun ob z => by rw [hs.2 b (fun q => by have := (s4.above x _ hx).2; rw [q, this] at e; cases e)]; exact z⟩
  · by_cases q : a = x
    · subst q; rw [Zad] at e; cases e; exact ho D
    · rw [Zab q] at e
      refine (s4.rep a ao e).agree (fun ob z => by rw [hs.2 a q]; exact z) fun cl es eo => ⟨rfl, fun ob z => ?_⟩
      subst eo; rw [hs.2 _ (fun q => by have := (s4.dict a cl es e).2.2; rw [q, hx] at this; cases this)]; exact z
  · by_cases q : a = x
    · subst q; exact ⟨abv ((s4.above a _ hx).1.2 hne), (s4.above a _ hx).2⟩
    · rw [Zab q] at e; exact s4.above a ao e
  · by_cases q : a = x
    · subst q; rw [Zad] at e; cases e; exact absurd rfl (hni' cl es)
    · rw [Zab q] at e
      obtain ⟨y1, y2, y3⟩ := s4.dict a cl es e
      exact ⟨y1, y2, by rw [Zab (fun q => by rw [q, hx] at y3; cases y3)]; exact y3⟩
  · by_cases q : a = x
    · subst q; rw [Zad] at e; cases e; exact absurd rfl (hni' cl es)
    · by_cases q' : b = x
      · subst q'; rw [Zad] at e'; cases e'; exact absurd rfl (hni' cl' es')
      · rw [Zab q] at e; rw [Zab q'] at e'; exact s4.inj a b cl es cl' es' e e'
theorem St1.setAttr (S : St1 c R H h) {x : Addr} {cl : String} {es : List (String × AV)} (hx : H x = some (.inst cl es)) :
    ∃ d ents n, h.get? x = some (instObj (c.ca cl) d) ∧ h.get? d = some (dictOf ents n) ∧ Zb9 es ents ∧ (es.map (·.1)).Nodup ∧
      ∀ h' ents' n' es', Heap.SameBut d h h' → h'.get? d = some (dictOf ents' n') → Zb9 es' ents' → (es'.map (·.1)).Nodup → St1 c R (up H x (.inst cl es')) h' := by
  obtain ⟨s1, s2, s3, D, s4⟩ := S
  obtain ⟨e1, ents, n, e2, e3, e4⟩ := s4.rep x _ hx
  refine ⟨D x, ents, n, e1, e2, e3, e4, fun h' ents' n' es' hs hd ha hnd => ?_⟩
  obtain ⟨d1, d2, d3⟩ := s4.dict x cl es hx
  have bx : c.base.get? (D x) = none := by
    cases q : c.base.get? (D x) with
    | none => rfl
    | some o => have := lts q; have := leN d1; lia
  refine ⟨fun b o e => ?_, by rw [hs.1]; exact s2, fun b rr e => ?_, D, ⟨fun a ao e => ?_, fun a ao e => ?_, fun a cl' es'' e => ?_, fun a b cla esa clb esb e e' => ?_⟩⟩
  · rw [hs.2 b (fun q => by rw [q, bx] at e; cases e)]; exact s1 b o e
  · exact ⟨(s3 b rr e).1, (s3 b rr e).2.agree fun ob z => by rw [hs.2 b (fun q => by rw [q, d2] at e; cases e)]; exact z⟩
  · by_cases q : a = x
    · subst q; rw [Zad] at e; cases e
      exact ⟨by rw [hs.2 a (fun q => by rw [← q, hx] at d3; cases d3)]; exact e1, ents', n', hd, ha, hnd⟩
    · rw [Zab q] at e
      refine (s4.rep a ao e).agree (fun ob z => by rw [hs.2 a (fun q => by rw [q, d3] at e; cases e)]; exact z) fun cl' es'' eo => ⟨rfl, fun ob z => ?_⟩
      subst eo; rw [hs.2 _ (fun q' => q (s4.inj a x _ _ _ _ e hx q'))]; exact z
  · by_cases q : a = x
    · subst q; exact ⟨abv ((s4.above a _ hx).1.2 rfl), (s4.above a _ hx).2⟩
    · rw [Zab q] at e; exact s4.above a ao e
  · by_cases q : a = x
    · subst q; exact ⟨d1, d2, by rw [Zab (fun q => by rw [q, hx] at d3; cases d3)]; exact d3⟩
    · rw [Zab q] at e
      obtain ⟨y1, y2, y3⟩ := s4.dict a cl' es'' e
      exact ⟨y1, y2, by rw [Zab (fun q => by rw [q, hx] at y3; cases y3)]; exact y3⟩
  · have t : ∀ z cz ez, up H x (.inst cl es') z = some (.inst cz ez) → ∃ c0 e0, H z = some (.inst c0 e0) := fun z cz ez ez' => by
      by_cases q : z = x
      · subst q; exact ⟨_, _, hx⟩
      · rw [Zab q] at ez'; exact ⟨_, _, ez'⟩
    obtain ⟨_, _, t1⟩ := t a _ _ e
    obtain ⟨_, _, t2⟩ := t b _ _ e'
    exact s4.inj a b _ _ _ _ t1 t2
theorem St1.newInst (S : St1 c R H h) {cl : String} : H (h.objs.size + 1) = none ∧ St1 c R (up H (h.objs.size + 1) (.inst cl [])) ((h.push emptyDict).push (instObj (c.ca cl) h.objs.size)) := by
  refine ⟨S.freeH (by lia), ?_⟩
  have hfd := S.freeH (x := h.objs.size) (by lia)
  have hfi := S.freeH (x := h.objs.size + 1) (by lia)
  have hrd := S.freeR (x := h.objs.size) (by lia)
  have hri := S.freeR (x := h.objs.size + 1) (by lia)
  have k : ∀ b o, h.get? b = some o → ((h.push emptyDict).push (instObj (c.ca cl) h.objs.size)).get? b = some o := fun b o e => Heap.get?_push_of_some _ (Heap.get?_push_of_some _ e)
  obtain ⟨s1, s2, s3, D, s4⟩ := S
  have hDlt : ∀ a cl es, H a = some (.inst cl es) → @LT.lt Nat _ (D a) h.objs.size := fun a cl es e => by
    obtain ⟨_, _, _, q, _⟩ := s4.rep a _ e; exact lts q
  refine ⟨fun b o e => k b o (s1 b o e), by rw [Heap.size_push, Heap.size_push]; lia, fun b r e => ⟨(s3 b r e).1, (s3 b r e).2.agree fun _ => k _ _⟩,
    fun a => if a = h.objs.size + 1 then h.objs.size else D a, ⟨fun a ao e => ?_, fun a ao e => ?_, fun a cl' es e => ?_, fun a b cla esa clb esb e e' hq => ?_⟩⟩
  · by_cases q : a = h.objs.size + 1
    · subst q; rw [Zad] at e; cases e
      refine ⟨?_, [], 0, ?_, trivial, by simp⟩
      · simp only [if_true]
        have := Heap.get?_push_size (h.push emptyDict) (o := instObj (c.ca cl) h.objs.size) rfl
        rwa [Heap.size_push] at this
      · simp only [if_true]
        exact Heap.get?_push_of_some _ (Heap.get?_push_size h rfl)
    · rw [Zab q] at e
      exact (s4.rep a ao e).agree (fun _ => k _ _) fun cl' es eo => ⟨by simp [q], fun _ => k _ _⟩
  · by_cases q : a = h.objs.size + 1
    · subst q; exact ⟨abv (by lia), hri⟩
    · rw [Zab q] at e; exact s4.above a ao e
  · by_cases q : a = h.objs.size + 1
    · subst q
      simp only [if_true]
      exact ⟨s2, hrd, by rw [Zab (Nat.ne_of_lt (Nat.lt_succ_self _))]; exact hfd⟩
    · rw [Zab q] at e
      simp only [if_neg q]
      obtain ⟨y1, y2, y3⟩ := s4.dict a cl' es e
      have := hDlt a cl' es e
      exact ⟨y1, y2, by rw [Zab (Nat.ne_of_lt (Nat.lt_succ_of_lt this))]; exact y3⟩
  · by_cases q : a = h.objs.size + 1
    · by_cases q' : b = h.objs.size + 1
      · rw [q, q']
      · rw [Zab q'] at e'
        simp only [q, q', if_true, if_false] at hq
        exact absurd hq (Nat.ne_of_gt (hDlt b _ _ e'))
    · rw [Zab q] at e
      by_cases q' : b = h.objs.size + 1
      · simp only [q, q', if_true, if_false] at hq
        exact absurd hq (Nat.ne_of_lt (hDlt a _ _ e))
      · rw [Zab q'] at e'
        simp only [q, q', if_false] at hq
        exact s4.inj a b _ _ _ _ e e' hq
end
theorem Sm.refl (s : Shared) : Sm s s := ⟨s.heap, s.toks, rfl⟩
theorem Sm.mk' (s : Shared) (h : Heap) (tk : Nat) : Sm s { s with heap := h, toks := tk } := ⟨h, tk, rfl⟩
theorem Sm.trans {s s' s'' : Shared} (x : Sm s s') (y : Sm s' s'') : Sm s s'' := by
  obtain ⟨h, t, rfl⟩ := x
  obtain ⟨h', t', rfl⟩ := y
  exact ⟨h', t', rfl⟩
noncomputable def KB (P : Role → Prop) (o o' : Addr → Option Role) (H H' : Zaa) : Prop := ∀ a r x, P r → o a = some r → H a = some x → x.isB = false → o' a = some r ∧ H' a = some x
section
variable {P : Role → Prop} {o o' : Addr → Option Role} {H H' : Zaa} (k : KB P o o' H H') (hd : P .data)
include k hd
theorem pairsAV.congr : ∀ {ts : List Addr} {l : List (Str × Int)}, pairsAV o H ts l → pairsAV o' H' ts l
  | [], [], _ => trivial
  | t :: _, _ :: _, ⟨h1, h2, h3⟩ => ⟨(k t _ _ hd h1 h2 rfl).1, (k t _ _ hd h1 h2 rfl).2, h3.congr⟩
  | [], _ :: _, h => h.elim
  | _ :: _, [], h => h.elim
theorem PairsAt.congr {p : Addr} {l : List (Str × Int)} (h : PairsAt o H p l) : PairsAt o' H' p l := by
  obtain ⟨h1, ts, h2, h3⟩ := h
  exact ⟨(k p _ _ hd h1 h2 rfl).1, ts, (k p _ _ hd h1 h2 rfl).2, h3.congr k hd⟩
theorem IsPact.congr {i : Nat} (hp : P (.pact i) ∧ P (.inside i)) {a : Addr} {q : Pc} (h : IsPact o H i a q) : IsPact o' H' i a q := by
  obtain ⟨h1, pa, ga, ne, ins, ep, h2, h3, h4, h5, h6, h7, h8⟩ := h
  exact ⟨(k a _ _ hp.1 h1 h2 rfl).1, pa, ga, ne, ins, ep, (k a _ _ hp.1 h1 h2 rfl).2, h3.congr k hd, h4.congr k hd, (k ne _ _ hd h5 h6 rfl).1, (k ne _ _ hd h5 h6 rfl).2, (k ins _ _ hp.2 h7 h8 rfl).1, (k ins _ _ hp.2 h7 h8 rfl).2⟩
theorem pactsAt.congr : ∀ {i : Nat} {as : List Addr} {qs : List Pc}, (∀ j, i ≤ j → P (.pact j) ∧ P (.inside j)) → pactsAt o H i as qs → pactsAt o' H' i as qs
  | _, [], [], _, _ => trivial
  | i, _ :: _, _ :: _, hp, ⟨h1, h2⟩ => ⟨h1.congr k hd (hp i (Nat.le_refl _)), h2.congr fun j hj => hp j (Nat.le_of_succ_le hj)⟩
  | _, [], _ :: _, _, h => h.elim
  | _, _ :: _, [], _, h => h.elim
end
theorem IsBook.congr {o o' : Addr → Option Role} {H H' : Zaa} (k : KB (fun _ => True) o o' H H') {b f s p : Addr} {as : List Addr} {B : Bk} (h : IsBook o H b f s p as B) : IsBook o' H' b f s p as B := by
  obtain ⟨h1, h2, h3, h4, h5, ⟨e1, h6⟩, ⟨e2, h7⟩, ⟨e3, h8⟩, h9⟩ := h
  exact ⟨(k b _ _ trivial h1 h5 rfl).1, (k f _ _ trivial h2 h6 rfl).1, (k s _ _ trivial h3 h7 rfl).1, (k p _ _ trivial h4 h8 rfl).1, (k b _ _ trivial h1 h5 rfl).2, ⟨e1, (k f _ _ trivial h2 h6 rfl).2⟩, ⟨e2, (k s _ _ trivial h3 h7 rfl).2⟩, ⟨e3, (k p _ _ trivial h4 h8 rfl).2⟩, h9.congr k trivial fun _ _ => ⟨trivial, trivial⟩⟩
set_option tactic.hygienic true in
theorem ownB_some {o : Addr → Option (Addr × Role)} {b a : Addr} {r : Role} : ownB o b a = some r ↔ o a = some (b, r) := by
  unfold ownB
  split
  · rename_i c r' e
    rw [e]
    by_cases q : c = b <;> simp [q]
  · rename_i e; rw [e]; simp
section
variable {H H₁ : Zaa}
theorem Real.get (r : Real H H₁) {a : Addr} {x : AObj} (e : H a = some x) (hb : x.isB = false) : H₁ a = some x := by
  obtain ⟨_, o, h⟩ := r
  rcases h a x e with ⟨_, h, _⟩ | ⟨B, _, _, _, _, rfl, _⟩
  · exact h
  · cases hb
theorem Real.none (r : Real H H₁) {a : Addr} (e : H₁ a = Option.none) : H a = Option.none := by
  obtain ⟨_, o, h⟩ := r
  cases q : H a with
  | none => rfl
  | some x =>
    rcases h a x q with ⟨_, h, _⟩ | ⟨B, f, s, p, as, rfl, h⟩
    · rw [e] at h; cases h
    · have := h.hb; rw [e] at this; cases this
theorem Real.put (r : Real H H₁) {x : Addr} {y : AObj} (hy : y.isB = false) (hx : H₁ x = Option.none ∨ ∃ z, H x = some z ∧ z.isB = false) : Real (up H x y) (up H₁ x y) := by
  obtain ⟨hr, o, h⟩ := r
  have hox : (∃ z, H x = some z ∧ z.isB = false) → o x = Option.none := by
    rintro ⟨z, e, hz⟩
    rcases h x z e with ⟨_, _, q⟩ | ⟨B, _, _, _, _, rfl, _⟩
    · exact q
    · cases hz
  refine ⟨fun a z e => ?_, fun a => if a = x then Option.none else o a, fun a z e => ?_⟩
  · by_cases q : a = x
    · subst q; rw [Zad] at e; cases e; exact hy
    · rw [Zab q] at e; exact hr a z e
  by_cases q : a = x
  · subst q; rw [Zad] at e; cases e
    exact .inl ⟨hy, Zad, if_pos rfl⟩
  · rw [Zab q] at e
    rcases h a z e with ⟨h1, h2, h3⟩ | ⟨B, f, s, p, as, rfl, h1⟩
    · exact .inl ⟨h1, by rw [Zab q]; exact h2, (if_neg q).trans h3⟩
    · refine .inr ⟨B, f, s, p, as, rfl, h1.congr fun c r' z _ hr hc _ => ?_⟩
      have hr := ownB_some.mp hr
      have hcx : c ≠ x := by
        rintro rfl
        rcases hx with hx | hx
        · rw [hx] at hc; cases hc
        · rw [hox hx] at hr; cases hr
      exact ⟨ownB_some.mpr ((if_neg hcx).trans hr), by rw [Zab hcx]; exact hc⟩
theorem Real.less {H' : Zaa} (r : Real H H₁) (k : ∀ a x, H' a = some x → H a = some x) : Real H' H₁ := by
  obtain ⟨hr, o, h⟩ := r
  exact ⟨hr, o, fun a x e => h a x (k a x e)⟩
theorem Real.raw (hr : ∀ a x, H a = some x → x.isB = false) : Real H H := ⟨hr, fun _ => Option.none, fun a x e => .inl ⟨hr a x e, e, rfl⟩⟩
theorem Real.unpack (r : Real H H₁) {b : Addr} {B : Bk} (hb : H b = some (.book B)) : ∃ H₂ o f s p as, Real H₂ H₁ ∧ IsBook o H₂ b f s p as B ∧ ∀ a x, H a = some x → a ≠ b → H₂ a = some x ∧ o a = Option.none := by
  obtain ⟨hr, o, h⟩ := r
  rcases h b _ hb with ⟨h1, _⟩ | ⟨B', f, s, p, as, e, h1⟩
  · cases h1
  cases e
  have key : ∀ a x, H a = some x → a ≠ b → ownB o b a = Option.none := fun a x e q => by
    cases z : ownB o b a with
    | none => rfl
    | some r =>
      have z := ownB_some.mp z
      rcases h a x e with ⟨_, _, k⟩ | ⟨B', f', s', p', as', rfl, k⟩
      · rw [k] at z; cases z
      · have := ownB_some.mp k.ob; rw [this] at z; cases z; exact absurd rfl q
  have hbs := h1.ob
  refine ⟨fun a => match ownB o b a with | some _ => H₁ a | Option.none => H a, ownB o b, f, s, p, as, ⟨hr, fun a => match ownB o b a with | some _ => Option.none | Option.none => o a, fun a x e => ?_⟩, h1.congr fun a r x _ hr hx _ => ⟨hr, by simp only [hr]; exact hx⟩, fun a x e q => ?_⟩
  · cases z : ownB o b a with
    | some r => simp only [z] at e; exact .inl ⟨hr a x e, e, by simp only [z]⟩
    | none =>
      simp only [z] at e
      rcases h a x e with ⟨k1, k2, k3⟩ | ⟨B', f', s', p', as', rfl, k⟩
      · exact .inl ⟨k1, k2, by simp only [z]; exact k3⟩
      · refine .inr ⟨B', f', s', p', as', rfl, k.congr fun c r x _ hc hx _ => ⟨?_, hx⟩⟩
        have hc := ownB_some.mp hc
        have hab : a ≠ b := by rintro rfl; rw [hbs] at z; cases z
        have hn : ownB o b c = Option.none := by
          cases w : ownB o b c with
          | none => rfl
          | some r' => have w := ownB_some.mp w; rw [hc] at w; cases w; exact absurd rfl hab
        exact ownB_some.mpr (by simp only [hn]; exact hc)
  · have := key a x e q
    exact ⟨by simp only [this]; exact e, this⟩
theorem Real.pack {H₂ : Zaa} {o : Addr → Option Role} {b f s p : Addr} {as : List Addr} {B : Bk} (r : Real H₂ H₁) (hb : IsBook o H₂ b f s p as B)
    (k : ∀ a x, H a = some x → (a = b ∧ x = .book B) ∨ (a ≠ b ∧ o a = Option.none ∧ H₂ a = some x)) : Real H H₁ := by
  obtain ⟨hr, oA, h⟩ := r
  refine ⟨hr, fun a => match oA a with | some z => some z | Option.none => (o a).map fun r => (b, r), fun a x e => ?_⟩
  rcases k a x e with ⟨rfl, rfl⟩ | ⟨h1, h2, h3⟩
  · refine .inr ⟨B, f, s, p, as, rfl, hb.congr fun c r x _ hc hx hn => ?_⟩
    rcases h c x hx with ⟨_, k1, k2⟩ | ⟨B', _, _, _, _, rfl, _⟩
    · exact ⟨ownB_some.mpr (by simp only [k2, hc]; rfl), k1⟩
    · cases hn
  · rcases h a x h3 with ⟨k1, k2, k3⟩ | ⟨B', f', s', p', as', rfl, k1⟩
    · exact .inl ⟨k1, k2, by simp only [k3, h2]; rfl⟩
    · refine .inr ⟨B', f', s', p', as', rfl, k1.congr fun c r x _ hc hx _ => ⟨?_, hx⟩⟩
      have hc := ownB_some.mp hc
      exact ownB_some.mpr (by simp only [hc])
end
section
variable {c : Cx} {R R' : RR} {H : Zaa} {h h' : Heap}
theorem St.stays (S : St c R H h) : c.base.StaysIn h := let ⟨_, s, _⟩ := S; s.stays
theorem St.size (S : St c R H h) : c.base.objs.size ≤ h.objs.size := let ⟨_, s, _⟩ := S; s.size
theorem St.res (S : St c R H h) : ∀ b r, R b = some r → c.base.objs.size ≤ b ∧ ResAt h b r := let ⟨_, s, _⟩ := S; s.res
theorem St.orep (S : St c R H h) {a : Addr} {x : AObj} (e : H a = some x) (hb : x.isB = false := by rfl) : (∃ D, ORep c h D a x) ∧ Abv c a x ∧ R a = none := by
  obtain ⟨H₁, s, r⟩ := S
  obtain ⟨D, k⟩ := s.rep
  exact ⟨⟨D, k.rep a x (r.get e hb)⟩, k.above a x (r.get e hb)⟩
theorem St.there (S : St c R H h) {a : Addr} {x : AObj} (e : H a = some x) : ∃ ob, h.get? a = some ob := by
  obtain ⟨H₁, s, r⟩ := S
  obtain ⟨D, k⟩ := s.rep
  cases q : H₁ a with
  | none => rw [r.none q] at e; cases e
  | some y => exact (k.rep a y q).there
theorem St.weaken (S : St c R' H h) (k : ∀ b r, R b = some r → R' b = some r) : St c R H h := let ⟨H₁, s, r⟩ := S; ⟨H₁, s.weaken k, r⟩
theorem St.keeps (S : St c R H h) (k : ∀ b o, h.get? b = some o → h'.get? b = some o) (hs : h.objs.size ≤ h'.objs.size) : St c R H h' := let ⟨H₁, s, r⟩ := S; ⟨H₁, s.keeps k hs, r⟩
theorem St.push (S : St c R H h) (o : Obj) : St c R H (h.push o) := let ⟨H₁, s, r⟩ := S; ⟨H₁, s.push o, r⟩
theorem St.freeR (S : St c R H h) {x : Addr} (hx : h.objs.size ≤ x) : R x = none := let ⟨_, s, _⟩ := S; s.freeR hx
theorem St.newObj (S : St c R H h) {x : Addr} {o : AObj} (hx : h.objs.size ≤ x) (k : ∀ b ob, h.get? b = some ob → h'.get? b = some ob) (hs : h.objs.size ≤ h'.objs.size)
    (hni : ∀ cl es, o ≠ .inst cl es) (ho : ∀ D, ORep c h' D x o) (hb : o.isB = false := by rfl) : H x = none ∧ St c R (up H x o) h' := by
  obtain ⟨H₁, s, r⟩ := S
  obtain ⟨e, s'⟩ := s.newObj hx k hs hni ho
  exact ⟨r.none e, _, s', r.put hb (.inl e)⟩
theorem St.newRes (S : St c R H h) {x : Addr} {r : Res} (hx : h.objs.size ≤ x) (k : ∀ b ob, h.get? b = some ob → h'.get? b = some ob) (hs : h.objs.size ≤ h'.objs.size)
    (hr : ResAt h' x r) : R x = none ∧ H x = none ∧ St c (rup R x r) H h' := by
  obtain ⟨H₁, s, rl⟩ := S
  obtain ⟨e, e', s'⟩ := s.newRes hx k hs hr
  exact ⟨e, rl.none e', _, s', rl⟩
theorem St.setRes (S : St c R H h) {x : Addr} {r r' : Res} (hx : R x = some r) (hs : Heap.SameBut x h h') (hr : ResAt h' x r') : St c (rup R x r') H h' := let ⟨H₁, s, rl⟩ := S; ⟨H₁, s.setRes hx hs hr, rl⟩
theorem St.setObj (S : St c R H h) {x : Addr} {o o' : AObj} (hx : H x = some o) (hni' : ∀ cl es, o' ≠ .inst cl es) (hs : Heap.SameBut x h h')
    (ho : ∀ D, ORep c h' D x o') (hne : o.isX = false := by rfl) (hb : o.isB = false := by rfl) (hb' : o'.isB = false := by rfl) : St c R (up H x o') h' := by
  obtain ⟨H₁, s, r⟩ := S
  exact ⟨_, s.setObj (r.get hx hb) hni' hs ho hne, r.put hb' (.inr ⟨o, hx, hb⟩)⟩
theorem St.setAttr (S : St c R H h) {x : Addr} {cl : String} {es : List (String × AV)} (hx : H x = some (.inst cl es)) :
    ∃ d ents n, h.get? x = some (instObj (c.ca cl) d) ∧ h.get? d = some (dictOf ents n) ∧ Zb9 es ents ∧ (es.map (·.1)).Nodup ∧
      ∀ h' ents' n' es', Heap.SameBut d h h' → h'.get? d = some (dictOf ents' n') → Zb9 es' ents' → (es'.map (·.1)).Nodup → St c R (up H x (.inst cl es')) h' := by
  obtain ⟨H₁, s, r⟩ := S
  obtain ⟨d, ents, n, a1, a2, a3, a4, a5⟩ := s.setAttr (r.get hx rfl)
  exact ⟨d, ents, n, a1, a2, a3, a4, fun h' e' n' es' q1 q2 q3 q4 => ⟨_, a5 h' e' n' es' q1 q2 q3 q4, r.put rfl (.inr ⟨_, hx, rfl⟩)⟩⟩
theorem St.newInst (S : St c R H h) {cl : String} : H (h.objs.size + 1) = none ∧ St c R (up H (h.objs.size + 1) (.inst cl [])) ((h.push emptyDict).push (instObj (c.ca cl) h.objs.size)) := by
  obtain ⟨H₁, s, r⟩ := S
  obtain ⟨e, s'⟩ := s.newInst (cl := cl)
  exact ⟨r.none e, _, s', r.put rfl (.inl e)⟩
theorem St.bookAttr (S : St c R H h) {x : Addr} {B : Bk} (hx : H x = some (.book B)) : ∃ f s p, ∃ d ents n, h.get? x = some (instObj (c.ca "Book") d) ∧ h.get? d = some (dictOf ents n) ∧ Zb9 [("day", .int B.day), ("free", .ref f), ("aside", .ref s), ("pacts", .ref p)] ents := by
  obtain ⟨H₁, s, r⟩ := S
  obtain ⟨_, o, k⟩ := r
  rcases k x _ hx with ⟨k, _⟩ | ⟨B', f, s', p, as, e, k⟩
  · cases k
  cases e
  obtain ⟨d, ents, n, a1, a2, a3, _⟩ := s.setAttr k.hb
  exact ⟨f, s', p, d, ents, n, a1, a2, a3⟩
end
end Mine
end
section
open PySem PySem.W PyProof.Rows PySem.Spec PySem.SeqAt PySem.Calls
namespace Mine
structure Cx.Ok (c : Cx) (mg mb : Str → Option Value) : Prop where
  kin : c.K.In c.base
  g : c.base.Ns mainGlobals mg
  b : c.base.Ns builtinsNs mb
  nolimit : c.base.NoLimit
  builtins : ∀ x : Str, x ≠ "__name__" → mb x = bootBuiltins x
  seer : c.base.NoSeer
  tree : c.prog.given.tree = none
  top : ∃ p loose, TopRead p loose mg mb c.base
structure Ev (g : Gx) (A : Around) (R : RR) (e : Env) (l : List Env) : Prop where
  aok : AOk 4 g.n g.md A (e :: l)
  stk : Stk R (e :: l)
inductive TQi (c : Cx) (R : RR) (s0 : Shared) (Q : AV → Zaa → Prop) (v : Value) (s' : Shared) : Prop
  | mk (av : AV) (H' : Zaa) (hv : VR av v) (S : St c R H' s'.heap) (m : Sm s0 s') (q : Q av H') : TQi c R s0 Q v s'
noncomputable def TQ (g : Gx) (R : RR) (s0 : Shared) (Q : AV → Zaa → Prop) (v : Value) (s' : Shared) : Prop := TQi g.c R s0 Q v s'
inductive TBi (c : Cx) (R : RR) (s0 : Shared) (Q : Bool → Zaa → Prop) (b : Bool) (s' : Shared) : Prop
  | mk (H' : Zaa) (S : St c R H' s'.heap) (m : Sm s0 s') (q : Q b H') : TBi c R s0 Q b s'
noncomputable def TB (g : Gx) (R : RR) (s0 : Shared) (Q : Bool → Zaa → Prop) (b : Bool) (s' : Shared) : Prop := TBi g.c R s0 Q b s'
inductive TEi (c : Cx) (R : RR) (s0 : Shared) (E : String → Zaa → Prop) (e : Value) (s' : Shared) : Prop
  | mk (a : Addr) (cl : String) (H' : Zaa) (h : e = .ref a) (X : ExcSt c R H' a cl .none s'.heap) (m : Sm s0 s') (q : E cl H') : TEi c R s0 E e s'
noncomputable def TE (g : Gx) (R : RR) (s0 : Shared) (E : String → Zaa → Prop) (e : Value) (s' : Shared) : Prop := TEi g.c R s0 E e s'
theorem Sm.step {s0 s : Shared} (x : Sm s0 s) (h : Heap) (tk : Nat) : Sm s0 { s with heap := h, toks := tk } := x.trans ⟨h, tk, rfl⟩
theorem Sm.toks {s0 s : Shared} (x : Sm s0 s) (tk : Nat) : Sm s0 { s with toks := tk } := x.trans ⟨s.heap, tk, rfl⟩
theorem Sm.heap {s0 s : Shared} (x : Sm s0 s) (h : Heap) : Sm s0 { s with heap := h } := x.trans ⟨h, s.toks, rfl⟩
section
variable {g : Gx} {A : Around} {R : RR} {s0 s : Shared} {H : Zaa} {E : Value → Shared → Prop} {Q : AV → Zaa → Prop}
theorem TQ.pure {a : AV} {v : Value} (hv : VR a v) (S : St g.c R H s.heap) (m : Sm s0 s) (q : Q a H) : TQ g R s0 Q v s := ⟨a, H, hv, S, m, q⟩
theorem TQ.toks {a : AV} {v : Value} {tk : Nat} (hv : VR a v) (S : St g.c R H s.heap) (m : Sm s0 s) (q : Q a H) : TQ g R s0 Q v { s with toks := tk } := ⟨a, H, hv, S, m.toks tk, q⟩
theorem Zbb {a : Addr} {xs : List AV} (S : St g.c R H s.heap) (e : H a = some (.list xs)) : ∃ vs n, s.heap.get? a = some (listOf (vs : List Value).toArray n) ∧ VRs xs vs ∧ s.heap.IsList a vs.toArray := by
  obtain ⟨⟨D, vs, n, h1, h2⟩, _⟩ := S.orep e
  exact ⟨vs, n, h1, h2, _, h1, rfl, n, rfl⟩
theorem Zct {a : Addr} {xs : List AV} (S : St g.c R H s.heap) (e : H a = some (.tuple xs)) : ∃ vs n, s.heap.get? a = some { cls := .type "tuple", data := .seq (vs : List Value).toArray n } ∧ VRs xs vs ∧ IsTup s.heap a vs.toArray := by
  obtain ⟨⟨D, vs, n, h1, h2⟩, _⟩ := S.orep e
  exact ⟨vs, n, h1, h2, _, h1, rfl, n, rfl⟩
theorem Zcl {a : Addr} {ep : Nat} {es : List (Str × AV)} (S : St g.c R H s.heap) (e : H a = some (.dict ep es)) : ∃ kvs, s.heap.DictAt (strKind g.c.prog g.c.w) a kvs ep ∧ DRs es kvs := by
  obtain ⟨⟨D, r⟩, _⟩ := S.orep e
  exact r
theorem Zsc {a : Addr} {o : AObj} (S : St g.c R H s.heap) (e : H a = some o) (hne : o.isX = false := by rfl) (hb : o.isB = false := by rfl) : g.c.base.objs.size ≤ a := (S.orep e hb).2.1.2 hne
theorem DRs.length {es kvs} (h : DRs es kvs) : kvs.length = es.length := by
  induction h with
  | nil => rfl
  | cons _ _ _ ih => simp [ih]
set_option tactic.hygienic true in
theorem DRs.look {es kvs} (h : DRs es kvs) (k : Str) : OVR (Zb0 es k) (valueAt kvs k) := by
  induction h with
  | nil => exact .none
  | cons hk hv _ ih =>
    rename_i k' a v as vs _
    dsimp only [Zb0, valueAt, List.find?_cons] at ih ⊢
    by_cases q : k' = k
    · simp [q]; exact .some hv
    · simp [q]; exact ih
theorem DRs.vals {es kvs} (h : DRs es kvs) : VRs (es.map (·.2)) (kvs.map (·.2)) := by
  induction h with
  | nil => exact .nil
  | cons _ hv _ ih => exact .cons hv ih
theorem OVR.isSome {a v} (h : OVR a v) : v.isSome = a.isSome := by cases h <;> rfl
theorem Zer {xs : List AV} {vs : List Value} {n : Nat} {h' : Heap} {x : Addr} {tk : Nat} (S : St g.c R H s.heap) (m : Sm s0 s) (hv : VRs xs vs) (hx : s.heap.objs.size ≤ x)
    (k : ∀ b ob, s.heap.get? b = some ob → h'.get? b = some ob) (hs : s.heap.objs.size ≤ h'.objs.size) (ho : h'.get? x = some (listOf vs.toArray n))
    (q : ∀ z, H z = none → Q (.ref z) (up H z (.list xs))) : TQ g R s0 Q (.ref x) { s with heap := h', toks := tk } := by
  obtain ⟨e, S'⟩ := S.newObj (o := .list xs) hx k hs (by intro _ _ z; cases z) (fun D => ⟨vs, n, ho, hv⟩)
  exact ⟨.ref x, _, .ref x, S', m.step _ _, q x e⟩
theorem Zir {v : Value} {a : AV} {Qb : Bool → Zaa → Prop} (hv : VR a v) (S : St g.c R H s.heap) (m : Sm s0 s) (q : Zbh a H (fun b => Qb b H)) :
    wpAny (model g.c.prog g.c.w) A (truthy v) (TB g R s0 Qb) E s := by
  cases hv with
  | none => exact truthy_none ⟨H, S, m, q⟩
  | bool b => exact wpAny_truthy_bool ⟨H, S, m, q⟩
  | int i t => exact truthy_int ⟨H, S, m, q⟩
  | str x t hx =>
    refine P.truthy_str (by have := q.1; omega) ⟨H, S, m.toks _, ?_⟩
    have : ((x.length : Int) != 0) = (x.length != 0) := by
      cases x.length with
      | zero => rfl
      | succ n => simp; omega
    rw [this]; exact q.2
  | ref p =>
    obtain ⟨o, e⟩ : ∃ o, H p = o := ⟨_, rfl⟩
    rw [Zut, e] at q
    cases o with
    | none => exact q.elim
    | some o =>
    cases o with
    | list xs =>
      obtain ⟨vs, n, h1, h2, h3⟩ := Zbb S e
      have hl := h2.length
      refine wpAny_truthy_list h3 (by simp only [List.size_toArray]; have := q.1; omega) ⟨H, S, m.toks _, ?_⟩
      have : (vs.toArray.isEmpty) = xs.isEmpty := by cases h2 <;> rfl
      rw [this]; exact q.2
    | tuple xs =>
      obtain ⟨vs, n, h1, h2, h3⟩ := Zct S e
      have hl := h2.length
      refine truthy_tuple h3 (by simp only [List.size_toArray]; have := q.1; omega) ⟨H, S, m.toks _, ?_⟩
      have : (vs.toArray.isEmpty) = xs.isEmpty := by cases h2 <;> rfl
      rw [this]; exact q.2
    | _ => exact q.elim
theorem Zjb {x y : Str} (hx : PyData.strOk x = true) (hy : PyData.strOk y = true) : PyData.strOk (x ++ y) = true := by
  show (x.cps ++ y.cps).all _ = true
  rw [Array.all_append]
  exact Bool.and_eq_true_iff.mpr ⟨hx, hy⟩
theorem Zg3 {x : Str} (hx : PyData.strOk x = true) {ch : Nat} (hc : ch ∈ x.cps) : ch < 0x110000 := by
  have := (Array.all_eq_true_iff_forall_mem.mp hx) ch hc
  simpa using this
theorem Zin {l : List Nat} (h : ∀ ch ∈ l, ch < 0x110000) : PyData.strOk ⟨l.toArray⟩ = true := by
  show l.toArray.all _ = true
  rw [Array.all_eq_true_iff_forall_mem]
  intro ch hc
  simpa using h ch (by simpa using hc)
theorem Zdx {as : List AV} {vs : List Value} {k : AV → Prop} {m : List Value → Prop} (hv : VRs as vs) (q : onV1 as k) (f : ∀ a v, VR a v → k a → m [v]) : m vs := by
  cases hv with
  | nil => exact q.elim
  | cons h1 hr => cases hr with
    | nil => exact f _ _ h1 q
    | cons => exact q.elim
theorem Zqa {o : AV} {u : Value} {k : Addr → List AV → Prop} {m : Value → Prop} (ho : VR o u) (q : atL o H k) (f : ∀ p xs, H p = some (.list xs) → k p xs → m (.ref p)) : m u := by
  cases ho with
  | ref p =>
    obtain ⟨o, e⟩ : ∃ o, H p = o := ⟨_, rfl⟩
    dsimp only [atL] at q
    rw [e] at q
    cases o with
    | none => exact q.elim
    | some o => cases o with
      | list xs => exact f p xs e q
      | _ => exact q.elim
  | _ => exact q.elim
theorem Zuk {o : AV} {u : Value} {k : Addr → List (Str × AV) → Prop} {m : Value → Prop} (ho : VR o u) (q : atD o H k) (f : ∀ p ep es, H p = some (.dict ep es) → k p es → m (.ref p)) : m u := by
  cases ho with
  | ref p =>
    obtain ⟨o, e⟩ : ∃ o, H p = o := ⟨_, rfl⟩
    dsimp only [atD] at q
    rw [e] at q
    cases o with
    | none => exact q.elim
    | some o => cases o with
      | dict ep es => exact f p ep es e q
      | _ => exact q.elim
  | _ => exact q.elim
theorem Zc2 {a b : AV} {u v : Value} {P : Int → Int → Prop} {m : Value → Value → Prop} (hu : VR a u) (hv : VR b v) (q : wii a b P) (f : ∀ x y t t', P x y → m (.int x t) (.int y t')) : m u v := by
  cases hu with
  | int x t => cases hv with
    | int y t' => exact f x y t t' q
    | _ => exact q.elim
  | _ => exact q.elim
set_option tactic.hygienic true in
theorem Zu4 {x y : Str} {t u : Tok} (hx : PyData.strOk x = true) (hy : PyData.strOk y = true) (S : St g.c R H s.heap) (m : Sm s0 s) (q1 : x.length + y.length ≤ sizeLine) (q2 : Q (.str (x ++ y)) H) :
    wpAny (model g.c.prog g.c.w) A (binaryOp .Add (.str x t) (.str y u)) (TQ g R s0 Q) E s := by
  refine P.add_str ?_
  have e1 : ∀ z : Str, z.length = 0 → z = Str.empty := fun z hz => by
    obtain ⟨⟨l⟩⟩ := z
    cases l with
    | nil => rfl
    | cons => cases hz
  split
  · rename_i hz
    have hz' := e1 _ (by simpa using hz)
    rw [hz'] at q2
    refine TQ.pure (.str _ u hy) S m ?_
    have e2 : ∀ y : Str, Str.empty ++ y = y := fun y => by show Str.append _ _ = _; simp [Str.append, Str.empty]
    rw [e2] at q2; exact q2
  · split
    · rename_i _ hz
      have hz' := e1 _ (by simpa using hz)
      rw [hz'] at q2
      refine TQ.pure (.str _ t hx) S m ?_
      have e2 : ∀ x : Str, x ++ Str.empty = x := fun x => by show Str.append _ _ = _; simp [Str.append, Str.empty]
      rw [e2] at q2; exact q2
    · refine ⟨?_, TQ.toks (.str _ _ (Zjb hx hy)) S m q2⟩
      rw [Str.length_append]; exact q1
theorem Zu5 {x y : Addr} (S : St g.c R H s.heap) (m : Sm s0 s) (q : wbin .Add (.ref x) (.ref y) Q H) :
    wpAny (model g.c.prog g.c.w) A (binaryOp .Add (.ref x) (.ref y)) (TQ g R s0 Q) E s := by
  obtain ⟨o, e1⟩ : ∃ o, H x = o := ⟨_, rfl⟩
  obtain ⟨o', e2⟩ : ∃ o, H y = o := ⟨_, rfl⟩
  replace q : (match H x, H y with
      | some (.list xs), some (.list ys) => xs.length + ys.length ≤ sizeLine ∧ ∀ z, H z = none → Q (.ref z) (up H z (.list (xs ++ ys)))
      | _, _ => False) := q
  rw [e1, e2] at q
  cases o with
  | none => exact q.elim
  | some o =>
  cases o with
  | list xs => cases o' with
    | none => exact q.elim
    | some o' => cases o' with
      | list ys =>
        obtain ⟨vs, n, h1, h2, h3⟩ := Zbb S e1
        obtain ⟨ws, n', k1, k2, k3⟩ := Zbb S e2
        refine P.add_list (n := n) (n2 := n') h1 k1 ?_ (by have := h2.length; have := k2.length; have := q.1; simp only [List.size_toArray]; lia)
        have hvw := h2.append k2
        refine Zer (n := 0) (vs := vs ++ ws) S m hvw (Nat.le_refl _) (fun _ _ e => Heap.get?_push_of_some _ e) (by rw [Heap.size_push]; exact Nat.le_succ _) ?_ q.2
        rw [Heap.get?_push_size _ rfl]; simp
      | _ => exact q.elim
  | _ => exact q.elim
theorem Zxg {op : Operator} {a b : AV} {u v : Value} {e₀ : Env} {l₀ : List Env} {mg mb : Str → Option Value} (C : g.c.Ok mg mb) (V : Ev g A R e₀ l₀) (hu : VR a u) (hv : VR b v) (S : St g.c R H s.heap) (m : Sm s0 s) (q : wbin op a b Q H) :
    wpAny (model g.c.prog g.c.w) A (binaryOp op u v) (TQ g R s0 Q) E s := by
  cases op with
  | Add => cases hu with
    | int x t => cases hv with
      | int y t' => exact add_int (TQ.toks (.int _ _) S m q)
      | _ => exact q.elim
    | str x t hx => cases hv with
      | str y t' hy => exact Zu4 hx hy S m q.1 q.2
      | _ => exact q.elim
    | ref p => cases hv with
      | ref p' => exact Zu5 S m q
      | _ => exact q.elim
    | _ => exact q.elim
  | Sub => exact Zc2 (m := fun u v => wpAny _ A (binaryOp .Sub u v) (TQ g R s0 Q) E s) hu hv q fun _ _ _ _ q => sub_int (TQ.toks (.int _ _) S m q)
  | Mult => exact Zc2 (m := fun u v => wpAny _ A (binaryOp .Mult u v) (TQ g R s0 Q) E s) hu hv q fun _ _ _ _ q => mul_int (TQ.toks (.int _ _) S m q.2) q.1
  | FloorDiv =>
    refine Zc2 (m := fun u v => wpAny _ A (binaryOp .FloorDiv u v) (TQ g R s0 Q) E s) hu hv q fun _ _ _ _ q => ?_
    have F0 := V.stk e₀ (List.mem_cons_self ..)
    refine floordiv_int q.1 (TQ.toks (.int _ _) S m q.2) (.inr (PySem.PylongRoom.of (C.nolimit.keeps S.stays) ?_ (PySem.SeerAt.of (env := e₀) (l := l₀) (C.seer.keeps S.stays) C.tree V.aok.frames F0.gen F0.co F0.blt F0.glob)))
    have := V.aok.depth
    have e : Builtin.pylongFrames ≤ 100 := by decide
    lia
  | Mod => exact Zc2 (m := fun u v => wpAny _ A (binaryOp .Mod u v) (TQ g R s0 Q) E s) hu hv q fun _ _ _ _ q => mod_int' q.1 (TQ.toks (.int _ _) S m q.2)
  | Pow =>
    refine Zc2 (m := fun u v => wpAny _ A (binaryOp .Pow u v) (TQ g R s0 Q) E s) hu hv q fun x y _ _ q => ?_
    obtain ⟨⟨q1, q2, q3⟩, q4⟩ := q
    refine AutoIntOps.pow_4 (by lia) (by simp; lia) (by simp; lia) (by simp; lia) (by rw [q3]; simp) (show (Made.int (x ^ y.toNat)).post _ s from TQ.toks (.int _ _) S m q4)
  | _ => exact q.elim
theorem RDs.len {H : Zaa} {as : List AV} : ∀ {ds : List PyData}, RDs H as ds → as.length = ds.length := by
  induction as with
  | nil => intro ds r; cases r; rfl
  | cons a as ih => intro ds r; cases r with | cons _ r => exact congrArg Nat.succ (ih r)
abbrev Rds (s : Shared) (v : Value) (d : PyData) : Prop := (∃ as, Reads s.heap v d as) ∧ (Zhu d = true → PyData.canLay0 d = true)
abbrev RdsA (s : Shared) (vs : List Value) (ds : List PyData) : Prop := (∃ bs, ReadsAll s.heap vs ds bs) ∧ (Zdi ds = true → PyData.canLayAll0 ds = true)
theorem Ztg (S : St g.c R H s.heap) {a : Addr} {xs : List AV} {ds : List PyData} (e : H a = some (.list xs)) (ih : ∀ {vs}, VRs xs vs → RdsA s vs ds) : Rds s (.ref a) (.list ds) := by
  obtain ⟨vs, n, h1, h2, h3⟩ := Zbb S e
  obtain ⟨⟨as, ih⟩, cl⟩ := ih h2
  exact ⟨⟨_, .list h1 rfl rfl ih⟩, cl⟩
theorem Zq1 (S : St g.c R H s.heap) {a : Addr} {xs : List AV} {ds : List PyData} (e : H a = some (.tuple xs)) (ih : ∀ {vs}, VRs xs vs → RdsA s vs ds) : Rds s (.ref a) (.tuple ds) := by
  obtain ⟨vs, n, h1, h2, h3⟩ := Zct S e
  obtain ⟨⟨as, ih⟩, cl⟩ := ih h2
  exact ⟨⟨_, .tuple h1 rfl rfl ih⟩, cl⟩
theorem Zth {a : AV} {d : PyData} {as : List AV} {ds : List PyData} (h : ∀ {v}, VR a v → Rds s v d) (ih : ∀ {vs}, VRs as vs → RdsA s vs ds) {vs : List Value} (hv : VRs (a :: as) vs) : RdsA s vs (d :: ds) := by
  cases hv with
  | cons v vs =>
    obtain ⟨⟨a1, h1⟩, c1⟩ := h v
    obtain ⟨⟨a2, h2⟩, c2⟩ := ih vs
    refine ⟨⟨_, .cons h1 h2⟩, fun f => ?_⟩
    have f := Bool.and_eq_true_iff.mp f
    exact Bool.and_eq_true_iff.mpr ⟨c1 f.1, c2 f.2⟩
theorem Zgr (S : St g.c R H s.heap) {a : AV} {d : PyData} {v : Value} (r : RD H a d) : VR a v → Rds s v d :=
  @RD.rec H (fun a d _ => ∀ {v}, VR a v → Rds s v d) (fun as ds _ => ∀ {vs}, VRs as vs → RdsA s vs ds)
    (fun hv => by cases hv; exact ⟨⟨[], .none⟩, fun _ => rfl⟩)
    (fun b _ hv => by cases hv; exact ⟨⟨[], .bool b⟩, fun _ => rfl⟩)
    (fun i _ hv => by cases hv with | int _ t => exact ⟨⟨[], .int i t⟩, fun _ => rfl⟩)
    (fun x _ hv => by cases hv with | str _ t h => exact ⟨⟨[], .str x t⟩, fun _ => h⟩)
    (fun e _ ih _ hv => by cases hv; exact Ztg S e ih)
    (fun e _ ih _ hv => by cases hv; exact Zq1 S e ih)
    (fun hv => by cases hv; exact ⟨⟨[], .nil⟩, fun _ => rfl⟩)
    (fun _ _ h ih _ hv => Zth h ih hv) a d r v
theorem Zec {d : PyData} (h : okD d) (c : Zhu d = true → PyData.canLay0 d = true) : shaped d = true := by
  unfold shaped
  rw [c h.1]
  simpa using h.2
theorem Zmb {mg mb : Str → Option Value} {p : Addr} {o : AObj} (C : g.c.Ok mg mb) (S : St g.c R H s.heap) (e : H p = some o) (hne : o.isX = false := by rfl) (hb : o.isB = false := by rfl) : (p == sysModules) = false := by
  have h1 := leN (Zsc S e hne hb)
  obtain ⟨mc, hc, _⟩ := C.nolimit
  have h2 := hc.lt
  have h3 : @LT.lt Nat _ sysModules cStatics := by decide
  have h4 : @LT.lt Nat _ cStatics g.c.base.objs.size := h2
  have : @LT.lt Nat _ sysModules p := by lia
  exact beq_eq_false_iff_ne.mpr (Nat.ne_of_gt this)
noncomputable def eqOp (ne : Bool) : CmpOp := if ne then .NotEq else .Eq
theorem Zu3 {ne : Bool} {a b : AV} {u v : Value} (un : A.units + 64 < cLine) (hu : VR a u) (hv : VR b v) (S : St g.c R H s.heap) (m : Sm s0 s) {da db : PyData} (ra : RD H a da) (rb : RD H b db) (sa : okD da) (sb : okD db) (qq : Q (.bool (nt ne (PyData.eqv da db))) H) :
    wpAny (model g.c.prog g.c.w) A (compareOp (eqOp ne) u v) (TQ g R s0 Q) E s := by
  obtain ⟨⟨as, ra'⟩, ca⟩ := Zgr S ra hu
  obtain ⟨⟨bs, rb'⟩, cb⟩ := Zgr S rb hv
  cases ne with
  | true => exact ne_dataH ra' rb' (Zec sa ca) (Zec sb cb) un (TQ.pure (.bool _) S m qq)
  | false => exact eq_dataH ra' rb' (Zec sa ca) (Zec sb cb) un (TQ.pure (.bool _) S m qq)
noncomputable def weqO (ne : Bool) (a b : AV) (Q : AV → Zaa → Prop) (H : Zaa) : Prop := ∃ da db, RD H a da ∧ RD H b db ∧ okD da ∧ okD db ∧ Q (.bool (nt ne (PyData.eqv da db))) H
theorem Zte {ne : Bool} {a b : AV} {u v : Value} {mg mb : Str → Option Value} (C : g.c.Ok mg mb) (un : A.units + 64 < cLine) (un' : A.in1.units + 64 < cLine) (hu : VR a u) (hv : VR b v) (S : St g.c R H s.heap) (m : Sm s0 s) (q : weqO ne a b Q H) :
    wpAny (model g.c.prog g.c.w) A (compareOp (eqOp ne) u v) (TQ g R s0 Q) E s := by
  obtain ⟨da, db, ra, rb, sa, sb, qq⟩ := q
  exact Zu3 un hu hv S m ra rb sa sb qq
theorem s_eq {ne : Bool} {a b : AV} {u v : Value} {e₀ : Env} {l₀ : List Env} {mg mb : Str → Option Value} (C : g.c.Ok mg mb) (V : Ev g A R e₀ l₀) (hu : VR a u) (hv : VR b v) (S : St g.c R H s.heap) (m : Sm s0 s) (q : weq ne a b Q H) :
    wpAny (model g.c.prog g.c.w) A (compareOp (eqOp ne) u v) (TQ g R s0 Q) E s := by
  have un : A.units + 64 < cLine := by have := V.aok.units; lia
  have un' : A.in1.units + 64 < cLine := by have := V.aok.units; dsimp only [Around.in1]; lia
  cases a with
  | int x => cases b with
    | int y =>
      cases hu; cases hv
      cases ne with
      | false => exact eq_int (TQ.pure (.bool _) S m q)
      | true => exact ne_int (TQ.pure (.bool _) S m q)
    | _ => exact Zte C un un' hu hv S m q
  | str x => cases b with
    | str y => exact Zu3 (da := .str x) (db := .str y) un hu hv S m (.str x) (.str y) ⟨rfl, Nat.zero_le _⟩ ⟨rfl, Nat.zero_le _⟩ q
    | _ => exact Zte C un un' hu hv S m q
  | _ => exact Zte C un un' hu hv S m q
theorem Zot (ch : Nat) (x : Str) : (!(Builtin.Str.occurrences x ⟨#[ch]⟩ 0 x.length 1).isEmpty) = x.cps.toList.contains ch := by
  rw [StrLaws.found_one]
  simp
theorem s_in {no : Bool} {a b : AV} {u v : Value} {e₀ : Env} {l₀ : List Env} {mg mb : Str → Option Value} (C : g.c.Ok mg mb) (V : Ev g A R e₀ l₀) (hu : VR a u) (hv : VR b v) (S : St g.c R H s.heap) (m : Sm s0 s) (q : win no a b Q H) :
    wpAny (model g.c.prog g.c.w) A (compareOp (if no then .NotIn else .In) u v) (TQ g R s0 Q) E s := by
  have un : A.units + 1 + 64 < cLine := by have := V.aok.units; lia
  cases hv with
  | ref p =>
    obtain ⟨o, e⟩ : ∃ o, H p = o := ⟨_, rfl⟩
    rw [Zd4, e] at q
    cases o with
    | none => exact q.elim
    | some o =>
    cases o with
    | list ys =>
      obtain ⟨d, ds, r1, r2, q1, q2, qq⟩ := q
      obtain ⟨⟨as, r1'⟩, c1⟩ := Zgr S r1 hu
      obtain ⟨⟨bs, r2'⟩, c2⟩ := Zgr S (.list e r2) (.ref p)
      have dd : d.depth ≤ 64 := q1.2
      replace q1 := Zec q1 c1
      replace q2 : PyData.canLayAll0 ds = true := c2 q2
      cases no with
      | true => exact notIn_list_reads r2' r1' q2 (canLay_of_shaped q1) (by lia) (TQ.pure (.bool _) S m (by exact qq))
      | false => exact in_list_reads r2' r1' q2 (canLay_of_shaped q1) (by lia) (TQ.pure (.bool _) S m (by exact qq))
    | dict ep es => cases hu with
      | str k t hk =>
        obtain ⟨kvs, hd, hr⟩ := Zcl S e
        have hds : (p == sysModules) = false := Zmb C S e
        have ho := (hr.look k).isSome
        cases no with
        | true =>
          refine wpAny_notIn_of (strKind_is _ _ k t) hds hd.dictOf.mapOf (TQ.toks (.bool _) S m ?_)
          rw [ho]; exact q
        | false =>
          refine wpAny_in_of (strKind_is _ _ k t) hds hd.dictOf.mapOf (TQ.toks (.bool _) S m ?_)
          rw [ho]; exact q
      | _ => exact q.elim
    | _ => exact q.elim
  | str y t hy => cases hu with
    | str x t' hx =>
      obtain ⟨ch, rfl, qq⟩ := q
      cases no with
      | true =>
        refine notIn_str (TQ.pure (.bool _) S m ?_)
        rw [Zot]; exact qq
      | false =>
        refine in_str (TQ.pure (.bool _) S m ?_)
        rw [Zot]; exact qq
    | _ => exact q.elim
  | _ => exact q.elim
end
end Mine
end
section
open PySem PySem.W PyProof.Rows PySem.Spec PySem.SeqAt PySem.Calls
namespace Mine
section
variable {g : Gx} {A : Around} {R : RR} {s0 s : Shared} {H : Zaa} {E : Value → Shared → Prop} {Q : AV → Zaa → Prop}
set_option tactic.hygienic true in
theorem Zhm {a : AV} {u : Value} (hu : VR a u) (c : Bool) : isSame u (.bool c) = pure (a == .bool c) := by
  cases hu <;> first | rfl | (rename_i b; cases c <;> cases b <;> rfl)
theorem Zgg {a : AV} {u : Value} (hu : VR a u) : isSame u .none = pure (a == .none) := by
  cases hu <;> rfl
theorem Zmu {op : CmpOp} {a b : AV} {u v : Value} {e₀ : Env} {l₀ : List Env} {mg mb : Str → Option Value} (C : g.c.Ok mg mb) (V : Ev g A R e₀ l₀) (hu : VR a u) (hv : VR b v) (S : St g.c R H s.heap) (m : Sm s0 s)
    (q : wcmp op a b Q H) : wpAny (model g.c.prog g.c.w) A (compareOp op u v) (TQ g R s0 Q) E s := by
  cases op with
  | Eq => exact s_eq (ne := false) C V hu hv S m q
  | NotEq => exact s_eq (ne := true) C V hu hv S m q
  | In => exact s_in (no := false) C V hu hv S m q
  | NotIn => exact s_in (no := true) C V hu hv S m q
  | Is =>
    show wpAny _ _ (do return Value.bool (← isSame u v) : Sem Value) _ _ _
    cases hv with
    | none => rw [Zgg hu]; exact wpAny_bind (wpAny_pure (wpAny_pure (TQ.pure (.bool _) S m q)))
    | bool b => rw [Zhm hu]; exact wpAny_bind (wpAny_pure (wpAny_pure (TQ.pure (.bool _) S m q)))
    | _ => exact q.elim
  | IsNot =>
    show wpAny _ _ (do return Value.bool (!(← isSame u v)) : Sem Value) _ _ _
    cases hv with
    | none => rw [Zgg hu]; exact wpAny_bind (wpAny_pure (wpAny_pure (TQ.pure (.bool _) S m q)))
    | bool b => rw [Zhm hu]; exact wpAny_bind (wpAny_pure (wpAny_pure (TQ.pure (.bool _) S m q)))
    | _ => exact q.elim
  | Lt => exact Zc2 (m := fun u v => wpAny _ A (compareOp .Lt u v) (TQ g R s0 Q) E s) hu hv q fun _ _ _ _ q => lt_int (TQ.pure (.bool _) S m q)
  | LtE => exact Zc2 (m := fun u v => wpAny _ A (compareOp .LtE u v) (TQ g R s0 Q) E s) hu hv q fun _ _ _ _ q => le_int (TQ.pure (.bool _) S m q)
  | Gt => exact Zc2 (m := fun u v => wpAny _ A (compareOp .Gt u v) (TQ g R s0 Q) E s) hu hv q fun _ _ _ _ q => gt_int (TQ.pure (.bool _) S m q)
  | GtE => exact Zc2 (m := fun u v => wpAny _ A (compareOp .GtE u v) (TQ g R s0 Q) E s) hu hv q fun _ _ _ _ q => ge_int (TQ.pure (.bool _) S m q)
theorem Zjd {n : Nat} {i : Int} {j : Nat} (h : Zgk n i = some j) : seqIndex? i n = some j := by
  unfold Zgk at h
  unfold seqIndex?
  split at h
  · split at h
    · cases h; have : ¬ i < 0 := by omega
      simp only [this, if_false]; rw [if_pos (by simp; omega)]
    · cases h
  · split at h
    · cases h; have : i < 0 := by omega
      simp only [this, if_true]; rw [if_pos (by simp; omega)]
    · cases h
theorem Zq2 {n : Nat} {i : Int} {j : Nat} (h : Zgk n i = some j) : j < n ∧ (0 ≤ i → j = i.toNat) ∧ (i < 0 → j = (i + n).toNat ∧ -(n : Int) ≤ i) := by
  unfold Zgk at h
  split at h
  · split at h
    · cases h; omega
    · cases h
  · split at h
    · cases h; omega
    · cases h
theorem Zxa {value slice : PySem.Expr} {a i : AV} {u v : Value} {mg mb : Str → Option Value} (_C : g.c.Ok mg mb) (hu : VR a u) (hv : VR i v) (S : St g.c R H s.heap) (m : Sm s0 s) (q : wsub a i Q H)
    (hs : ∀ o j, subscripted slice false o j = operate [o, j] (getItem o j)) : wpAny (model g.c.prog g.c.w) A (subscriptTail value slice u v) (TQ g R s0 Q) E s := by
  cases hu with
  | ref p => 
    obtain ⟨o, e⟩ : ∃ o, H p = o := ⟨_, rfl⟩
    cases hv with
    | int i t =>
      rw [Zg2, e] at q
      cases o with
      | none => exact q.elim
      | some o =>
      cases o with
      | list xs =>
        obtain ⟨j, x, h1, h2, h3, h4, qq⟩ := q
        obtain ⟨vs, n, k1, k2, k3⟩ := Zbb S e
        obtain ⟨y, y1, y2⟩ := k2.get h4
        obtain ⟨p1, p2, p3⟩ := Zq2 h1
        rw [k2.length] at p3
        refine tail_any k3.typeIs slot_list_getitem.lookup ?_ (hs _ _)
        by_cases hz : 0 ≤ i
        · exact wpAny_getItem_list k3 hz h2 (by rw [← p2 hz]; simpa using y1) (TQ.pure y2 S m qq)
        · have hz := Int.not_le.mp hz
          obtain ⟨p4, p5⟩ := p3 hz
          exact wpAny_getItem_list_neg k3 hz (by simpa using p5) h3 (by simp only [List.size_toArray]; rw [← p4]; simpa using y1) (TQ.pure y2 S m qq)
      | tuple xs =>
        obtain ⟨j, x, h1, h2, h3, h4, qq⟩ := q
        obtain ⟨vs, n, k1, k2, k3⟩ := Zct S e
        obtain ⟨y, y1, y2⟩ := k2.get h4
        refine tail_any k3.typeIs slot_tuple_getitem.lookup ?_ (hs _ _)
        exact getItem_tuple k3 h3 h2 (by simp only [List.size_toArray]; rw [← k2.length]; exact Zjd h1) (by simpa using y1) (TQ.pure y2 S m qq)
      | script ns =>
        obtain ⟨h1, h2, nn, h3, qq⟩ := q
        obtain ⟨⟨D, vs, n, k1, k2⟩, _⟩ := S.orep e
        obtain ⟨y, y1, y2⟩ := k2.get (i := i.toNat) (a := .int nn) (by rw [List.getElem?_map, h3]; rfl)
        have k3 : s.heap.IsList _ vs.toArray := ⟨_, k1, rfl, _, rfl⟩
        refine tail_any k3.typeIs slot_list_getitem.lookup ?_ (hs _ _)
        exact wpAny_getItem_list k3 h1 h2 (by simpa using y1) (TQ.pure y2 S m qq)
      | _ => exact q.elim
    | str k t hk =>
      rw [Zf9, e] at q
      cases o with
      | none => exact q.elim
      | some o =>
      cases o with
      | dict ep es =>
        obtain ⟨x, hx, qq⟩ := q
        obtain ⟨kvs, hd, hr⟩ := Zcl S e
        have ho := hr.look k
        rw [hx] at ho
        generalize hval : valueAt kvs k = y at ho
        cases ho with
        | some hv =>
          refine tail_any hd.dictOf.typeIs slot_dict_getitem.lookup ?_ (hs _ _)
          exact wpAny_getItem_of (strKind_is _ _ k t) hd.dictOf.mapOf hval (TQ.toks hv S m qq)
      | _ => exact q.elim
    | _ => exact q.elim
  | str x t hx => cases hv with
    | int i u =>
      obtain ⟨h1, h2, ch, h3, qq⟩ := q
      refine tail_any (typeIs_str s _ t) slot_str_getitem.lookup ?_ (hs _ _)
      have hlt : i.toNat < x.cps.size := (Array.getElem?_eq_some_iff.mp h3).1
      refine getItem_str (by simp; omega) (c := ch) ?_ (TQ.toks (.str _ _ ?_) S m qq)
      · have : seqIndex? i x.length = some i.toNat := Zjd (by unfold Zgk; rw [if_pos h1, if_pos (show i < ((x.length : Nat) : Int) from show i < ((x.cps.size : Nat) : Int) by omega)])
        rw [this]; exact h3
      · have hm := Array.mem_of_getElem? h3
        exact Zin (l := [ch]) (by intro c hc; rw [List.mem_singleton.mp hc]; exact Zg3 hx hm)
    | _ => exact q.elim
  | _ => exact q.elim
theorem VRs.filterMap {xs : List AV} {vs : List Value} (h : VRs xs vs) : ∀ ks : List Nat, VRs (ks.filterMap (xs[·]?)) (ks.filterMap (vs[·]?))
  | [] => .nil
  | k :: r => by
    have ih := VRs.filterMap h r
    dsimp only [List.filterMap_cons]
    cases e : xs[k]? with
    | none =>
      have : vs[k]? = none := by rw [List.getElem?_eq_none_iff] at e ⊢; rw [← h.length]; exact e
      rw [this]; exact ih
    | some a =>
      obtain ⟨v, hv, hr⟩ := h.get e
      rw [hv]; exact .cons hr ih
set_option tactic.hygienic true in
theorem Ztb {value : PySem.Expr} {lo hi st : Option PySem.Expr} {p : Pos} {a : AV} {l u t : Option AV} {o vl vu vt : Value} (hu : VR a o)
    (hl : (l = none ∧ vl = .none) ∨ ∃ x, l = some x ∧ VR x vl) (hh : (u = none ∧ vu = .none) ∨ ∃ x, u = some x ∧ VR x vu) (ht : (t = none ∧ vt = .none) ∨ ∃ x, t = some x ∧ VR x vt)
    (S : St g.c R H s.heap) (m : Sm s0 s) (q : Zgw a l u t Q H) :
    wpAny (model g.c.prog g.c.w) A (subscriptTail value (.Slice lo hi st p) o (.ref s.heap.objs.size)) (TQ g R s0 Q) E { s with heap := s.heap.push { cls := .type "slice", data := .fields #[vl, vu, vt] } } := by
  have part : ∀ {x : Option AV} {v : Value} {k : Option Int}, ((x = none ∧ v = .none) ∨ ∃ y, x = some y ∧ VR y v) → Zjg x = some k → IsPart v k := by
    rintro x v k (⟨rfl, rfl⟩ | ⟨y, rfl, hv⟩) e
    · cases e; exact .none
    · cases hv <;> dsimp only [Zjg] at e <;> cases e
      exact .int _ _
  have hs : ∀ o j, ∃ ops, subscripted (.Slice lo hi st p) false o j = operate ops (getItem o j) := by
    intro o j
    cases st with
    | none => exact ⟨_, rfl⟩
    | some _ => exact ⟨_, rfl⟩
  unfold Zgw at q
  split at q
  · cases hu
    split at q
    · rename_i xs e
      obtain ⟨li, ui, ti, e1, e2, e3, h0, hz, qq⟩ := q
      obtain ⟨vs, n, k1, k2, k3⟩ := Zbb S e
      obtain ⟨ops, hop⟩ := hs (.ref _) (.ref s.heap.objs.size)
      refine tail_any (Heap.IsList.typeIs (s := { s with heap := s.heap.push _ }) (k3.push _)) slot_list_getitem.lookup ?_ hop
      refine wpAny_getItem_list_slice (k3.push _) (Heap.IsSliceOf.new ..) (part hl e1) (part hh e2) (part ht e3) h0 ?_ (by simp only [List.size_toArray]; rw [← k2.length]; exact hz)
      have hp : VRs (Zfc xs li ui ti) (Zfc vs li ui ti) := by
        unfold Zfc; rw [k2.length]; exact k2.filterMap _
      dsimp only
      rw [Heap.size_push]
      refine Zer (n := 0) (vs := Zfc vs li ui ti) S m hp (Nat.le_succ _) (fun _ _ z => Heap.get?_push_of_some _ (Heap.get?_push_of_some _ z)) (by rw [Heap.size_push, Heap.size_push]; omega) ?_ qq
      have := Heap.get?_push_size (s.heap.push { cls := .type "slice", data := .fields #[vl, vu, vt] }) (o := { cls := .type "list", data := .seq (slicePick vs.toArray li ui ti) }) rfl
      rw [Heap.size_push] at this
      rw [this]
      simp [slicePick, Zfc]
    · exact q.elim
  · rename_i x
    cases hu with
    | str _ tk hx =>
      obtain ⟨ops, hop⟩ := hs (.str x tk) (.ref s.heap.objs.size)
      have sz : ∀ a b : Nat, a ≤ b → b ≤ x.length → x.length ≤ sizeLine → ∀ (l u : Option (Int × Tok)), (l.map (·.1) = some (a : Int) ∨ (l = none ∧ a = 0)) → (u.map (·.1) = some (b : Int) ∨ (u = none ∧ b = x.length)) →
          Q (.str ⟨((x.cps.toList.drop a).take (b - a)).toArray⟩) H → ∀ s' : Shared, s'.heap.IsSlice s.heap.objs.size l u none → St g.c R H s'.heap → Sm s0 s' → wpAny (model g.c.prog g.c.w) A (getItem (.str x tk) (.ref s.heap.objs.size)) (TQ g R s0 Q) E s' := by
        intro a b hab hb hz l u hl hu qq s' hsl S' m'
        refine wpAny_getItem_str_slice hsl rfl ?_
        have e : (slicePicked x l u none).filterMap (x.cps[·]?) = (x.cps.toList.drop a).take (b - a) := by
          rw [← StrLaws.sliced_plain x hab hb]
          unfold slicePicked
          congr 1
          show Builtin.Str.strSliceIndices _ _ 1 x.length = _
          rcases hl with hl | ⟨rfl, rfl⟩ <;> rcases hu with hu | ⟨rfl, rfl⟩
          · rw [hl, hu]
          · rw [hl]; exact StrLaws.sliceIdx_none_hi _ _
          · rw [hu]; exact StrLaws.sliceIdx_none_lo _ _
          · exact (StrLaws.sliceIdx_none_lo _ _).trans (StrLaws.sliceIdx_none_hi _ _)
        have el : (slicePicked x l u none).length = b - a := by
          unfold slicePicked
          show (Builtin.Str.strSliceIndices _ _ 1 x.length).length = _
          have e0 : Builtin.Str.strSliceIndices (l.map (·.1)) (u.map (·.1)) 1 x.length = (List.range (b - a)).map (fun k => a + k) := by
            rw [← StrLaws.strSliceIndices_plain hab hb]
            rcases hl with hl | ⟨rfl, rfl⟩ <;> rcases hu with hu | ⟨rfl, rfl⟩
            · rw [hl, hu]
            · rw [hl]; exact StrLaws.sliceIdx_none_hi _ _
            · rw [hu]; exact StrLaws.sliceIdx_none_lo _ _
            · exact (StrLaws.sliceIdx_none_lo _ _).trans (StrLaws.sliceIdx_none_hi _ _)
          rw [e0]; simp
        unfold sliceMade
        split
        · rename_i hc
          refine TQ.pure (.str _ tk hx) S' m' ?_
          have hc' : b - a = x.length := by
            have := (Bool.and_eq_true_iff.mp hc).2
            rw [el] at this
            simpa using this
          have ha : a = 0 := by omega
          have hbx : b = x.length := by omega
          subst ha hbx
          have : (⟨((x.cps.toList.drop 0).take (x.length - 0)).toArray⟩ : Str) = x := by
            have : x.cps.toList.take x.length = x.cps.toList := List.take_of_length_le (by simp [Str.length])
            simp [this]
          rw [this] at qq; exact qq
        · rw [e]
          refine ⟨?_, TQ.toks (.str _ _ ?_) S' m' qq⟩
          · simp [Str.length] at *; omega
          · exact Zin fun ch hc => Zg3 hx (by have := List.mem_of_mem_drop (List.mem_of_mem_take hc); simpa using this)
      have isl : ∀ {x : Option AV} {v : Value}, ((x = none ∧ v = .none) ∨ ∃ y, x = some y ∧ VR y v) → x = none → v = .none := by
        rintro x v (⟨_, h⟩ | ⟨y, e, _⟩) h2
        · exact h
        · rw [h2] at e; cases e
      refine tail_any (typeIs_str _ _ tk) slot_str_getitem.lookup ?_ hop
      split at q
      · rename_i li
        obtain ⟨h1, h2, h3, qq⟩ := q
        have h4 := isl hh rfl
        have h5 := isl ht rfl
        subst h4 h5
        rcases hl with ⟨z, _⟩ | ⟨y, z, hv⟩
        · cases z
        · cases z
          cases hv with
          | int _ t1 =>
            refine sz li.toNat x.length (by omega) (Nat.le_refl _) h3 (some (li, t1)) none (.inl (by simp; omega)) (.inr ⟨rfl, rfl⟩) ?_ _ ⟨_, Heap.get?_push_size _ rfl, rfl, rfl⟩ (S.push _) (m.heap _)
            have : (x.cps.toList.drop li.toNat).take (x.length - li.toNat) = x.cps.toList.drop li.toNat := List.take_of_length_le (by simp [Str.length])
            rw [this]; exact qq
      · rename_i ui
        obtain ⟨h1, h2, h3, qq⟩ := q
        have h4 := isl hl rfl
        have h5 := isl ht rfl
        subst h4 h5
        rcases hh with ⟨z, _⟩ | ⟨y, z, hv⟩
        · cases z
        · cases z
          cases hv with
          | int _ t1 =>
            refine sz 0 ui.toNat (Nat.zero_le _) (by omega) h3 none (some (ui, t1)) (.inr ⟨rfl, rfl⟩) (.inl (by simp; omega)) ?_ _ ⟨_, Heap.get?_push_size _ rfl, rfl, rfl⟩ (S.push _) (m.heap _)
            simpa using qq
      · exact q.elim
  · exact q.elim
end
end Mine
end
section
open PySem PySem.W PyProof.Rows PySem.Spec PySem.SeqAt PySem.Calls
namespace Mine
section
variable {g : Gx} {A : Around} {R : RR} {s0 s : Shared} {H : Zaa} {E : Value → Shared → Prop} {Q : AV → Zaa → Prop}
set_option tactic.hygienic true in
theorem Zxe {a : AV} {u : Value} {k ty : String} {b : Bool} (hu : VR a u) (S : St g.c R H s.heap) (m : Sm s0 s) (hk : Zfr H a = some k) (hty : ty = "int" ∨ ty = "bool" ∨ ty = "str" ∨ ty = "list")
    (hb : (k == ty || (k == "bool" && ty == "int")) = b) (q : Q (.bool b) H) : wpAny (model g.c.prog g.c.w) A (call (.builtin "isinstance") [u, .type ty]) (TQ g R s0 Q) E s := by
  subst hb
  cases hu with
  | none =>
    cases hk
    rcases hty with rfl | rfl | rfl | rfl
    · exact IsiPair.NoneType_int (TQ.toks (.bool _) S m q)
    · exact IsiPair.NoneType_bool (TQ.toks (.bool _) S m q)
    · exact IsiPair.NoneType_str (TQ.toks (.bool _) S m q)
    · exact IsiPair.NoneType_list (TQ.toks (.bool _) S m q)
  | bool b =>
    cases hk
    rcases hty with rfl | rfl | rfl | rfl
    · exact IsiPair.bool_int (TQ.pure (.bool _) S m q)
    · exact IsiPair.bool_bool (TQ.pure (.bool _) S m q)
    · exact IsiPair.bool_str (TQ.toks (.bool _) S m q)
    · exact IsiPair.bool_list (TQ.toks (.bool _) S m q)
  | int i t =>
    cases hk
    rcases hty with rfl | rfl | rfl | rfl
    · exact IsiPair.int_int (TQ.pure (.bool _) S m q)
    · exact IsiPair.int_bool (TQ.toks (.bool _) S m q)
    · exact IsiPair.int_str (TQ.toks (.bool _) S m q)
    · exact IsiPair.int_list (TQ.toks (.bool _) S m q)
  | str x t hx =>
    cases hk
    rcases hty with rfl | rfl | rfl | rfl
    · exact IsiPair.str_int (TQ.toks (.bool _) S m q)
    · exact IsiPair.str_bool (TQ.toks (.bool _) S m q)
    · exact IsiPair.str_str (TQ.pure (.bool _) S m q)
    · exact IsiPair.str_list (TQ.toks (.bool _) S m q)
  | ref p =>
    unfold Zfr at hk
    dsimp only at hk
    split at hk
    · rename_i xs e
      cases hk
      obtain ⟨vs, n, h1, h2, h3⟩ := Zbb S e
      rcases hty with rfl | rfl | rfl | rfl
      · exact IsiPair.list_int h1 rfl (TQ.toks (.bool _) S m q)
      · exact IsiPair.list_bool h1 rfl (TQ.toks (.bool _) S m q)
      · exact IsiPair.list_str h1 rfl (TQ.toks (.bool _) S m q)
      · exact IsiPair.list_list h1 rfl (TQ.pure (.bool _) S m q)
    · rename_i xs e
      cases hk
      obtain ⟨vs, n, h1, h2, h3⟩ := Zct S e
      rcases hty with rfl | rfl | rfl | rfl
      · exact IsiPair.tuple_int h1 rfl (TQ.toks (.bool _) S m q)
      · exact IsiPair.tuple_bool h1 rfl (TQ.toks (.bool _) S m q)
      · exact IsiPair.tuple_str h1 rfl (TQ.toks (.bool _) S m q)
      · exact IsiPair.tuple_list h1 rfl (TQ.toks (.bool _) S m q)
    · rename_i ep es e
      cases hk
      obtain ⟨kvs, ⟨o, ents, h1, h2, h3⟩, hr⟩ := Zcl S e
      rcases hty with rfl | rfl | rfl | rfl
      · exact IsiPair.dict_int h1 h2.1 (TQ.toks (.bool _) S m q)
      · exact IsiPair.dict_bool h1 h2.1 (TQ.toks (.bool _) S m q)
      · exact IsiPair.dict_str h1 h2.1 (TQ.toks (.bool _) S m q)
      · exact IsiPair.dict_list h1 h2.1 (TQ.toks (.bool _) S m q)
    · cases hk
noncomputable def Zis : Pr → Value
  | .len => .builtin "len"
  | .list => .type "list"
  | .int => .type "int"
  | .range => .type "range"
  | .sum => .builtin "sum"
  | .all => .builtin "all"
  | .min => .builtin "min"
  | .max => .builtin "max"
noncomputable def Zgs : String → Value
  | "len" => .builtin "len"
  | "list" => .type "list"
  | "int" => .type "int"
  | "range" => .type "range"
  | "sum" => .builtin "sum"
  | "all" => .builtin "all"
  | "min" => .builtin "min"
  | "max" => .builtin "max"
  | "isinstance" => .builtin "isinstance"
  | "bool" => .type "bool"
  | "str" => .type "str"
  | "ValueError" => .type "ValueError"
  | _ => .builtin "?"
theorem Zje (f : Pr) : Zgs f.str = Zis f := by cases f <;> rfl
theorem Zmy (f : Pr) : (∃ i, Zis f = .builtin i) ∨ ∃ i, Zis f = .type i := by
  cases f <;> first | exact .inl ⟨_, rfl⟩ | exact .inr ⟨_, rfl⟩
theorem St.kept {h h' : Heap} {e₀ : Env} {l₀ : List Env} (ev : Ev g A R e₀ l₀) (S : St g.c R H h) (k : ∀ b o, h.get? b = some o → h'.get? b = some o) : St g.c R H h' := by
  obtain ⟨m, hm⟩ := (ev.stk e₀ (List.mem_cons_self ..)).ns
  obtain ⟨o, _, _, w, _⟩ := (S.res _ _ hm).2
  have h1 := (S.res _ _ hm).1
  have h2 := lts (k _ _ w)
  obtain ⟨H₁, ⟨s1, s2, s3, D, s4⟩, r⟩ := S
  exact ⟨H₁, ⟨fun b o e => k b o (s1 b o e), Nat.le_of_lt (Nat.lt_of_le_of_lt h1 h2), fun b r e => ⟨(s3 b r e).1, (s3 b r e).2.agree fun _ => k _ _⟩, D,
    ⟨fun a o e => (s4.rep a o e).agree (fun _ => k _ _) fun _ _ _ => ⟨rfl, fun _ => k _ _⟩, s4.above, s4.dict, s4.inj⟩⟩, r⟩
theorem Znf {K : Type} {kvs : List (K × Value)} {acc : Array Value} (h : ItemsOf (fun i v => ∃ k, kvs[i]? = some (k, v)) acc kvs.length) : acc.toList = kvs.map (·.2) := by
  obtain ⟨h1, h2⟩ := h
  exact kdl_vals_eq acc.toList (by simpa using h1) fun j v e => h2 j v (by simpa using e)
theorem VRs.of_get : ∀ {as : List AV} {vs : List Value}, as.length = vs.length → (∀ (i : Nat) a v, as[i]? = some a → vs[i]? = some v → VR a v) → VRs as vs
  | [], [], _, _ => .nil
  | a :: as, v :: vs, hl, h => .cons (h 0 a v rfl rfl) (VRs.of_get (Nat.succ.inj hl) fun i => h (i + 1))
theorem DRs.key {es : List (Str × AV)} {kvs : List (Str × Value)} (h : DRs es kvs) : ∀ {k : Nat} {n : Str} {v : Value}, kvs[k]? = some (n, v) → ∃ a, es[k]? = some (n, a) ∧ PyData.strOk n = true := by
  induction h with
  | nil => intro k n a e; simp at e
  | cons h1 h2 _ ih =>
    intro k n a e
    cases k with
    | zero => simp at e; obtain ⟨rfl, rfl⟩ := e; exact ⟨_, rfl, h1⟩
    | succ k => exact ih (by simpa using e)
theorem Zkn {prog : Program} {w : World} {k : Str} {key : Value} (h : (PySem.strKind prog w).is k key = true) : ∃ t, key = .str k t := by
  cases key <;> simp [PySem.strKind, Value.isStrOf] at h
  subst h; exact ⟨_, rfl⟩
theorem Ztd {p : Addr} {e₀ : Env} {l₀ : List Env} {mg mb : Str → Option Value} (C : g.c.Ok mg mb) (ev : Ev g A R e₀ l₀) (S : St g.c R H s.heap) (m : Sm s0 s) (q : Zd8 g.md .list [.ref p] Q H) :
    wpAny (model g.c.prog g.c.w) A (call (.type "list") [.ref p]) (TQ g R s0 Q) E s := by
  obtain ⟨oo, e⟩ : ∃ oo, H p = oo := ⟨_, rfl⟩
  rw [Ze2, e] at q
  cases oo with
  | none => exact q.elim
  | some oo =>
  cases oo with
  | list xs =>
    obtain ⟨vs, n, k1, k2, k3⟩ := Zbb S e
    have hl := k2.length
    refine call_list_seq (hsz := by simp only [List.size_toArray]; rw [← hl]; exact q.1) _ (.inl rfl) k1 rfl rfl fun h' c' hk hD => ?_
    exact Zer (s := s) S m k2 (Nat.le_refl _) hk (Nat.le_of_lt (lts hD)) hD q.2
  | tuple xs =>
    obtain ⟨vs, n, k1, k2, k3⟩ := Zct S e
    have hl := k2.length
    refine call_list_seq (hsz := by simp only [List.size_toArray]; rw [← hl]; exact q.1) _ (.inr rfl) k1 rfl rfl fun h' c' hk hD => ?_
    exact Zer (s := s) S m k2 (Nat.le_refl _) hk (Nat.le_of_lt (lts hD)) hD q.2
  | dict ep es =>
    obtain ⟨hmd, hz, q⟩ := q
    obtain ⟨kvs, hd, hr⟩ := Zcl S e
    have hl := hr.length
    refine kdl_call (kdl_dict (knd := strKind g.c.prog g.c.w) (kvs := kvs) (ep := ep) (Zmb C S e)) (ev.aok.hand hmd) hd (by rw [hl]; exact hz) fun h' tk acc' c' hk hD hi => ?_
    have hvr : VRs (es.map fun e => AV.str e.1) acc'.toList := by
      refine VRs.of_get (by rw [List.length_map, ← hl, ← hi.1]; rfl) fun i a v h1 h2 => ?_
      obtain ⟨k, x, h3, h4⟩ := hi.2 i v (by simpa using h2)
      obtain ⟨t, rfl⟩ := Zkn h4
      obtain ⟨av, h5, h6⟩ := hr.key h3
      rw [List.getElem?_map, h5] at h1
      cases h1
      exact .str _ _ h6
    exact Zer (s := s) (n := c') S m hvr (Nat.le_refl _) hk (Nat.le_of_lt (lts hD)) (by rw [hD]) q
  | vals d =>
    obtain ⟨oo, e'⟩ : ∃ oo, H d = oo := ⟨_, rfl⟩
    dsimp only at q
    rw [e'] at q
    cases oo with
    | none => exact q.elim
    | some oo =>
    cases oo with
    | dict ep es =>
      obtain ⟨hmd, hz, q⟩ := q
      obtain ⟨kvs, hd, hr⟩ := Zcl S e'
      have hl := hr.length
      obtain ⟨⟨D, hv⟩, _⟩ := S.orep e
      refine kdl_call (kdl_values (knd := strKind g.c.prog g.c.w) (kvs := kvs) (ep := ep)) (ev.aok.hand hmd) ⟨⟨_, hv, rfl, rfl⟩, hd⟩ (by rw [hl]; exact hz) fun h' tk acc' c' hk hD hi => ?_
      refine Zer (s := s) (n := c') S m (vs := acc'.toList) ?_ (Nat.le_refl _) hk (Nat.le_of_lt (lts hD)) (by rw [hD]) q
      rw [Znf hi]; exact hr.vals
    | _ => exact q.elim
  | _ => exact q.elim
theorem Zjf {ns : List Int} {val : Nat → Int} : ∀ {k : Nat}, k ≤ ns.length → (∀ i x, ns[i]? = some x → val i = x) → preSum val k = (ns.take k).sum
  | 0, _, _ => by simp [preSum]
  | k + 1, hk, h => by
    have hlt : k < ns.length := hk
    have e : ns[k]? = some ns[k] := by simp [hlt]
    rw [preSum, Zjf (Nat.le_of_lt hlt) h, List.take_add_one, List.sum_append, e, h k _ e]
    show _ = _ + List.sum [ns[k]]
    simp
theorem VRs.ints {ns : List Int} {vs : List Value} (h : VRs (ns.map .int) vs) : ∀ (i : Nat) v, vs[i]? = some v → ∃ t, v = .int ((ns[i]?).getD 0) t := by
  intro i v e
  have hl := h.length
  rw [List.length_map] at hl
  have hi : i < ns.length := by have := (List.getElem?_eq_some_iff.mp e).1; lia
  obtain ⟨v', h1, h2⟩ := h.get (i := i) (a := .int ns[i]) (by simp [hi])
  rw [e] at h1; cases h1
  cases h2 with
  | int _ t => exact ⟨t, by simp [hi]⟩
theorem Zs6 {ns : List Int} : preSum (fun i => (ns[i]?).getD 0) ns.length = ns.sum := by
  rw [Zjf (Nat.le_refl _) (fun i x e => by simp [e]), List.take_length]
theorem Zw9 {p : Addr} {e₀ : Env} {l₀ : List Env} (ev : Ev g A R e₀ l₀) (S : St g.c R H s.heap) (m : Sm s0 s) (q : Zd8 g.md .sum [.ref p] Q H) :
    wpAny (model g.c.prog g.c.w) A (call (.builtin "sum") [.ref p]) (TQ g R s0 Q) E s := by
  rw [Zhd] at q
  obtain ⟨hmd, q⟩ := q
  refine call_sum_walkG ?_
  have hlt : ∀ {b o}, s.heap.get? b = some o → b ≠ s.heap.objs.size := fun e => Nat.ne_of_lt (lts e)
  obtain ⟨oo, e⟩ : ∃ oo, H p = oo := ⟨_, rfl⟩
  rw [e] at q
  cases oo with
  | none => exact q.elim
  | some oo =>
  cases oo with
  | list xs =>
    obtain ⟨ns, rfl, q⟩ := q
    obtain ⟨vs, n, k1, k2, k3⟩ := Zbb S e
    have hl := k2.length
    rw [List.length_map] at hl
    have W := Walks.list (prog := g.c.prog) (w := g.c.w) (A := A.in1) (ev.aok.hand hmd) _ _ (hlt k1) vs.toArray
    refine wpAny_pyIter_list k3 ⟨_, _, _, _, _, _, fun i => (ns[i]?).getD 0, rfl, W, ⟨⟨_, Heap.get?_push_size _ rfl, rfl, rfl⟩, k3.push _⟩, fun b hb => ?_, fun i v h => k2.ints i v (by simpa using h), fun h' tk t' hk => ?_⟩
    · have := lts k1
      simp only [List.mem_cons, List.not_mem_nil, or_false] at hb
      rcases hb with rfl | rfl
      · show _ < (Heap.push _ _).objs.size; rw [Heap.size_push]; exact Nat.lt_succ_self _
      · show _ < (Heap.push _ _).objs.size; rw [Heap.size_push]; exact Nat.lt_succ_of_lt this
    · rw [List.size_toArray, ← hl, Zs6]
      exact ⟨_, _, .int _ _, S.kept ev fun b o w => hk b o (by simp only [List.mem_singleton]; exact hlt w) (Heap.get?_push_of_some _ w), m.step _ _, q⟩
  | _ => exact q.elim
theorem Zxd {a : AV} {u : Value} {mg mb : Str → Option Value} (C : g.c.Ok mg mb) (hv : VR a u) (S : St g.c R H s.heap) (m : Sm s0 s) (q : wlen a Q H) : wpAny (model g.c.prog g.c.w) A (call (.builtin "len") [u]) (TQ g R s0 Q) E s := by
  cases hv with
  | str s' t hs => exact len_str (by have := q.1; lia) (TQ.toks (.int _ _) S m q.2)
  | ref p =>
    obtain ⟨oo, e⟩ : ∃ oo, H p = oo := ⟨_, rfl⟩
    dsimp only [wlen] at q
    rw [e] at q
    cases oo with
    | none => exact q.elim
    | some oo =>
    cases oo with
    | list xs =>
      obtain ⟨vs, n, k1, k2, k3⟩ := Zbb S e
      have hl := k2.length
      refine call_len_list k3 (by simp only [List.size_toArray]; have := q.1; lia) (TQ.toks (.int _ _) S m ?_)
      simp only [List.size_toArray]; rw [← hl]; exact q.2
    | tuple xs =>
      obtain ⟨vs, n, k1, k2, k3⟩ := Zct S e
      have hl := k2.length
      refine PyProof.Rows.len_tuple k3 (by simp only [List.size_toArray]; have := q.1; lia) (TQ.toks (.int _ _) S m ?_)
      simp only [List.size_toArray]; rw [← hl]; exact q.2
    | dict ep es =>
      obtain ⟨kvs, hd, hr⟩ := Zcl S e
      have hl := hr.length
      refine call_len_dict (Zmb C S e) hd.dictOf (by have := q.1; lia) (TQ.toks (.int _ _) S m ?_)
      rw [hl]; exact q.2
    | script ns =>
      obtain ⟨⟨D, vs, n, k1, k2⟩, _⟩ := S.orep e
      have hl := k2.length
      rw [List.length_map] at hl
      refine call_len_list (items := vs.toArray) ⟨_, k1, rfl, _, rfl⟩ (by simp only [List.size_toArray]; have := q.1; lia) (TQ.toks (.int _ _) S m ?_)
      simp only [List.size_toArray]; rw [← hl]; exact q.2
    | _ => exact q.elim
  | _ => exact q.elim
theorem Znr {as : List AV} {vs : List Value} {k : Int → Int → Prop} {m : List Value → Prop} (hv : VRs as vs) (q : wi2 as k) (f : ∀ x y t t', k x y → m [.int x t, .int y t']) : m vs := by
  cases hv with
  | nil => exact q.elim
  | cons h1 hr => exact Zdx (m := fun r => m (_ :: r)) hr q fun b v h2 q => Zc2 (m := fun u v => m [u, v]) h1 h2 q f
theorem Zxb {a b : Int} {t u : Tok} (S : St g.c R H s.heap) (m : Sm s0 s) (q : RgOk a b ∧ ∀ z, H z = none → Q (.ref z) (up H z (.range a b))) : wpAny (model g.c.prog g.c.w) A (call (.type "range") [.int a t, .int b u]) (TQ g R s0 Q) E s := by
  refine call_range_2 ?_
  obtain ⟨e, S'⟩ := S.newObj (o := .range _ _) (Nat.le_refl _) (fun _ _ z => Heap.get?_push_of_some _ z) (by rw [Heap.size_push]; exact Nat.le_succ _) (by intro _ _ z; cases z) (fun D => ⟨q.1, _, _, _, Heap.get?_push_size _ rfl⟩)
  exact ⟨_, _, .ref _, S', m.step _ _, q.2 _ e⟩
theorem Zuy {b : Int} {t : Tok} (S : St g.c R H s.heap) (m : Sm s0 s) (q : (-(2 ^ 62) < b ∧ b < 2 ^ 62) ∧ ∀ z, H z = none → Q (.ref z) (up H z (.range 0 b))) : wpAny (model g.c.prog g.c.w) A (call (.type "range") [.int b t]) (TQ g R s0 Q) E s := by
  refine call_range_1 ?_
  obtain ⟨e, S'⟩ := S.newObj (o := .range 0 _) (Nat.le_refl _) (fun _ _ z => Heap.get?_push_of_some _ z) (by rw [Heap.size_push]; exact Nat.le_succ _) (by intro _ _ z; cases z) (fun D => ⟨⟨by decide, by decide, q.1.1, q.1.2⟩, _, _, _, Heap.get?_push_size _ rfl⟩)
  exact ⟨_, _, .ref _, S', m.step _ _, q.2 _ e⟩
set_option tactic.hygienic true in
theorem Zuz {f : Pr} {as : List AV} {vs : List Value} {e₀ : Env} {l₀ : List Env} {mg mb : Str → Option Value} (C : g.c.Ok mg mb) (ev : Ev g A R e₀ l₀) (hv : VRs as vs) (S : St g.c R H s.heap) (m : Sm s0 s) (q : Zd8 g.md f as Q H) :
    wpAny (model g.c.prog g.c.w) A (call (Zis f) vs) (TQ g R s0 Q) E s := by
  cases f with
  | len => exact Zdx (m := fun vs => wpAny _ A (call (.builtin "len") vs) (TQ g R s0 Q) E s) hv q fun a v h q => Zxd C h S m q
  | list =>
    refine Zdx (m := fun vs => wpAny _ A (call (.type "list") vs) (TQ g R s0 Q) E s) hv q fun a v h q => ?_
    cases h with
    | ref p => exact Ztd C ev S m q
    | _ => exact q.elim
  | int =>
    refine Zdx (m := fun vs => wpAny _ A (call (.type "int") vs) (TQ g R s0 Q) E s) hv q fun a v h q => ?_
    cases h with
    | bool b => exact call_int_bool (TQ.toks (.int _ _) S m q)
    | _ => exact q.elim
  | range =>
    cases hv with
    | nil => exact q.elim
    | cons h1 hr => cases hr with
      | nil => cases h1 with
        | int b t => exact Zuy S m q
        | _ => exact q.elim
      | cons h2 hr =>
        have q : onV1 (_ :: _) (fun b => wii _ b fun a b => RgOk a b ∧ ∀ z, H z = none → Q (.ref z) (up H z (.range a b))) := q
        exact Zdx (m := fun r => wpAny _ A (call (.type "range") (_ :: r)) (TQ g R s0 Q) E s) (.cons h2 hr) q fun b v h2 q => Zc2 (m := fun u v => wpAny _ A (call (.type "range") [u, v]) (TQ g R s0 Q) E s) h1 h2 q fun _ _ _ _ q => Zxb S m q
  | sum =>
    refine Zdx (m := fun vs => wpAny _ A (call (.builtin "sum") vs) (TQ g R s0 Q) E s) hv q fun a v h q => ?_
    cases h with
    | ref p => exact Zw9 ev S m q
    | _ => exact q.2.elim
  | min =>
    refine Znr (m := fun vs => wpAny _ A (call (.builtin "min") vs) (TQ g R s0 Q) E s) hv q fun x y t t' q => ?_
    refine min_two_ints (ev.aok.hand q.1) fun h' tk hk => ?_
    have q := q.2
    split
    · rename_i z; rw [if_pos z] at q; exact ⟨_, _, .int _ _, S.kept ev hk, m.step _ _, q⟩
    · rename_i z; rw [if_neg z] at q; exact ⟨_, _, .int _ _, S.kept ev hk, m.step _ _, q⟩
  | max =>
    refine Znr (m := fun vs => wpAny _ A (call (.builtin "max") vs) (TQ g R s0 Q) E s) hv q fun x y t t' q => ?_
    refine max_two_ints (ev.aok.hand q.1) fun h' tk hk => ?_
    have q := q.2
    split
    · rename_i z; rw [if_pos z] at q; exact ⟨_, _, .int _ _, S.kept ev hk, m.step _ _, q⟩
    · rename_i z; rw [if_neg z] at q; exact ⟨_, _, .int _ _, S.kept ev hk, m.step _ _, q⟩
  | all => exact q.elim
theorem Zqz {p : Addr} {v : AV} {u : Value} {xs : List AV} (hv : VR v u) (S : St g.c R H s.heap) (m : Sm s0 s) (e : H p = some (.list xs)) (hz : xs.length ≤ sizeLine) (q : Q .none (up H p (.list (xs ++ [v])))) :
    wpAny (model g.c.prog g.c.w) A (call (.builtin "list.append") [.ref p, u]) (TQ g R s0 Q) E s := by
  obtain ⟨vs, n, k1, k2, k3⟩ := Zbb S e
  refine append_at k1 (fun h' hs ho => ?_) (by simp only [List.size_toArray]; rw [← k2.length]; exact hz)
  refine ⟨.none, _, .none, S.setObj (o' := .list (xs ++ [v])) e (by intro _ _ z; cases z) hs (fun D => ⟨vs ++ [u], n + 1, ?_, k2.append (.one hv)⟩), m.heap _, q⟩
  rw [ho]; simp
end
end Mine
end
section
open PySem PySem.W PyProof.Rows PySem.Spec PySem.SeqAt PySem.Calls
namespace Mine
theorem dn {c : Prop} [d : Decidable c] {k : c → Bool} (h : (if h : c then k h else false) = true) : ∃ q, k q = true :=
  match d, h with
  | .isTrue q, h => ⟨q, h⟩
  | .isFalse _, h => Bool.noConfusion h
theorem and2 {a b : Bool} (h : (a && b) = true) : a = true ∧ b = true := match a, h with
  | true, h => ⟨rfl, h⟩
  | false, h => Bool.noConfusion h
noncomputable def Zsp (e : PySem.Expr) (k : PySem.BoolOp → List PySem.Expr → Pos → Bool) : Bool := if h : e.ctorIdx = 0 then PySem.Expr.BoolOp.elim (motive_1 := fun _ => Bool) e h k else false
theorem Zm6 {m : PySem.Expr → Prop} {e : PySem.Expr} {k : PySem.BoolOp → List PySem.Expr → Pos → Bool} (h : Zsp e k = true) (f : ∀ o vs p, k o vs p = true → m (.BoolOp o vs p)) : m e :=
  (dn h).elim fun q z => PySem.Expr.BoolOp.elim (motive_1 := fun e => ∀ q, PySem.Expr.BoolOp.elim (motive_1 := fun _ => Bool) e q k = true → m e) e q (fun o vs p _ z => f o vs p z) q z
noncomputable def Zvj (e : PySem.Expr) (k : PySem.Expr → Operator → PySem.Expr → Pos → Bool) : Bool := if h : e.ctorIdx = 2 then PySem.Expr.BinOp.elim (motive_1 := fun _ => Bool) e h k else false
theorem Zoq {m : PySem.Expr → Prop} {e : PySem.Expr} {k : PySem.Expr → Operator → PySem.Expr → Pos → Bool} (h : Zvj e k = true) (f : ∀ l o r p, k l o r p = true → m (.BinOp l o r p)) : m e :=
  (dn h).elim fun q z => PySem.Expr.BinOp.elim (motive_1 := fun e => ∀ q, PySem.Expr.BinOp.elim (motive_1 := fun _ => Bool) e q k = true → m e) e q (fun l o r p _ z => f l o r p z) q z
noncomputable def onUn (e : PySem.Expr) (k : PySem.UnaryOp → PySem.Expr → Pos → Bool) : Bool := if h : e.ctorIdx = 3 then PySem.Expr.UnaryOp.elim (motive_1 := fun _ => Bool) e h k else false
theorem Zl1 {m : PySem.Expr → Prop} {e : PySem.Expr} {k : PySem.UnaryOp → PySem.Expr → Pos → Bool} (h : onUn e k = true) (f : ∀ o x p, k o x p = true → m (.UnaryOp o x p)) : m e :=
  (dn h).elim fun q z => PySem.Expr.UnaryOp.elim (motive_1 := fun e => ∀ q, PySem.Expr.UnaryOp.elim (motive_1 := fun _ => Bool) e q k = true → m e) e q (fun o x p _ z => f o x p z) q z
noncomputable def Zso (e : PySem.Expr) (k : List (Option PySem.Expr) → List PySem.Expr → Pos → Bool) : Bool := if h : e.ctorIdx = 6 then PySem.Expr.Dict.elim (motive_1 := fun _ => Bool) e h k else false
theorem Zc1 {m : PySem.Expr → Prop} {e : PySem.Expr} {k : List (Option PySem.Expr) → List PySem.Expr → Pos → Bool} (h : Zso e k = true) (f : ∀ ks vs p, k ks vs p = true → m (.Dict ks vs p)) : m e :=
  (dn h).elim fun q z => PySem.Expr.Dict.elim (motive_1 := fun e => ∀ q, PySem.Expr.Dict.elim (motive_1 := fun _ => Bool) e q k = true → m e) e q (fun ks vs p _ z => f ks vs p z) q z
noncomputable def onLC (e : PySem.Expr) (k : PySem.Expr → List Comprehension → Scope → Pos → Bool) : Bool := if h : e.ctorIdx = 8 then PySem.Expr.ListComp.elim (motive_1 := fun _ => Bool) e h k else false
theorem Zre {m : PySem.Expr → Prop} {e : PySem.Expr} {k : PySem.Expr → List Comprehension → Scope → Pos → Bool} (h : onLC e k = true) (f : ∀ x gs cs p, k x gs cs p = true → m (.ListComp x gs cs p)) : m e :=
  (dn h).elim fun q z => PySem.Expr.ListComp.elim (motive_1 := fun e => ∀ q, PySem.Expr.ListComp.elim (motive_1 := fun _ => Bool) e q k = true → m e) e q (fun x gs cs p _ z => f x gs cs p z) q z
noncomputable def Ztm (e : PySem.Expr) (k : PySem.Expr → List CmpOp → List PySem.Expr → Pos → Bool) : Bool := if h : e.ctorIdx = 15 then PySem.Expr.Compare.elim (motive_1 := fun _ => Bool) e h k else false
theorem Zjn {m : PySem.Expr → Prop} {e : PySem.Expr} {k : PySem.Expr → List CmpOp → List PySem.Expr → Pos → Bool} (h : Ztm e k = true) (f : ∀ l os rs p, k l os rs p = true → m (.Compare l os rs p)) : m e :=
  (dn h).elim fun q z => PySem.Expr.Compare.elim (motive_1 := fun e => ∀ q, PySem.Expr.Compare.elim (motive_1 := fun _ => Bool) e q k = true → m e) e q (fun l os rs p _ z => f l os rs p z) q z
noncomputable def Zjo (e : PySem.Expr) (k : PySem.Expr → List PySem.Expr → List Keyword → Pos → Bool) : Bool := if h : e.ctorIdx = 16 then PySem.Expr.Call.elim (motive_1 := fun _ => Bool) e h k else false
theorem Zfx {m : PySem.Expr → Prop} {e : PySem.Expr} {k : PySem.Expr → List PySem.Expr → List Keyword → Pos → Bool} (h : Zjo e k = true) (f : ∀ fe as ks p, k fe as ks p = true → m (.Call fe as ks p)) : m e :=
  (dn h).elim fun q z => PySem.Expr.Call.elim (motive_1 := fun e => ∀ q, PySem.Expr.Call.elim (motive_1 := fun _ => Bool) e q k = true → m e) e q (fun fe as ks p _ z => f fe as ks p z) q z
noncomputable def Zop (e : PySem.Expr) (k : Const → Nat → Pos → Bool) : Bool := if h : e.ctorIdx = 19 then PySem.Expr.Constant.elim (motive_1 := fun _ => Bool) e h k else false
theorem Zhg {m : PySem.Expr → Prop} {e : PySem.Expr} {k : Const → Nat → Pos → Bool} (h : Zop e k = true) (f : ∀ c kd p, k c kd p = true → m (.Constant c kd p)) : m e :=
  (dn h).elim fun q z => PySem.Expr.Constant.elim (motive_1 := fun e => ∀ q, PySem.Expr.Constant.elim (motive_1 := fun _ => Bool) e q k = true → m e) e q (fun c kd p _ z => f c kd p z) q z
noncomputable def Zh7 (e : PySem.Expr) (k : PySem.Expr → Str → Pos → Bool) : Bool := if h : e.ctorIdx = 20 then PySem.Expr.Attribute.elim (motive_1 := fun _ => Bool) e h k else false
theorem Zeq {m : PySem.Expr → Prop} {e : PySem.Expr} {k : PySem.Expr → Str → Pos → Bool} (h : Zh7 e k = true) (f : ∀ v a p, k v a p = true → m (.Attribute v a p)) : m e :=
  (dn h).elim fun q z => PySem.Expr.Attribute.elim (motive_1 := fun e => ∀ q, PySem.Expr.Attribute.elim (motive_1 := fun _ => Bool) e q k = true → m e) e q (fun v a p _ z => f v a p z) q z
noncomputable def Zrd (e : PySem.Expr) (k : PySem.Expr → PySem.Expr → Pos → Bool) : Bool := if h : e.ctorIdx = 21 then PySem.Expr.Subscript.elim (motive_1 := fun _ => Bool) e h k else false
theorem Zjm {m : PySem.Expr → Prop} {e : PySem.Expr} {k : PySem.Expr → PySem.Expr → Pos → Bool} (h : Zrd e k = true) (f : ∀ v i p, k v i p = true → m (.Subscript v i p)) : m e :=
  (dn h).elim fun q z => PySem.Expr.Subscript.elim (motive_1 := fun e => ∀ q, PySem.Expr.Subscript.elim (motive_1 := fun _ => Bool) e q k = true → m e) e q (fun v i p _ z => f v i p z) q z
noncomputable def Zh6 (e : PySem.Expr) (k : Str → Pos → Bool) : Bool := if h : e.ctorIdx = 23 then PySem.Expr.Name.elim (motive_1 := fun _ => Bool) e h k else false
theorem Zb4 {m : PySem.Expr → Prop} {e : PySem.Expr} {k : Str → Pos → Bool} (h : Zh6 e k = true) (f : ∀ n p, k n p = true → m (.Name n p)) : m e :=
  (dn h).elim fun q z => PySem.Expr.Name.elim (motive_1 := fun e => ∀ q, PySem.Expr.Name.elim (motive_1 := fun _ => Bool) e q k = true → m e) e q (fun n p _ z => f n p z) q z
noncomputable def Zsm (e : PySem.Expr) (k : List PySem.Expr → Pos → Bool) : Bool := if h : e.ctorIdx = 24 then PySem.Expr.List.elim (motive_1 := fun _ => Bool) e h k else false
theorem Zm4 {m : PySem.Expr → Prop} {e : PySem.Expr} {k : List PySem.Expr → Pos → Bool} (h : Zsm e k = true) (f : ∀ es p, k es p = true → m (.List es p)) : m e :=
  (dn h).elim fun q z => PySem.Expr.List.elim (motive_1 := fun e => ∀ q, PySem.Expr.List.elim (motive_1 := fun _ => Bool) e q k = true → m e) e q (fun es p _ z => f es p z) q z
noncomputable def Zrc (e : PySem.Expr) (k : List PySem.Expr → Nat → Pos → Bool) : Bool := if h : e.ctorIdx = 25 then PySem.Expr.Tuple.elim (motive_1 := fun _ => Bool) e h k else false
theorem Zhe {m : PySem.Expr → Prop} {e : PySem.Expr} {k : List PySem.Expr → Nat → Pos → Bool} (h : Zrc e k = true) (f : ∀ es kd p, k es kd p = true → m (.Tuple es kd p)) : m e :=
  (dn h).elim fun q z => PySem.Expr.Tuple.elim (motive_1 := fun e => ∀ q, PySem.Expr.Tuple.elim (motive_1 := fun _ => Bool) e q k = true → m e) e q (fun es kd p _ z => f es kd p z) q z
noncomputable def Zol (e : PySem.Expr) (k : Option PySem.Expr → Option PySem.Expr → Option PySem.Expr → Pos → Bool) : Bool := if h : e.ctorIdx = 26 then PySem.Expr.Slice.elim (motive_1 := fun _ => Bool) e h k else false
theorem Zk1 {m : PySem.Expr → Prop} {e : PySem.Expr} {k : Option PySem.Expr → Option PySem.Expr → Option PySem.Expr → Pos → Bool} (h : Zol e k = true) (f : ∀ l u t p, k l u t p = true → m (.Slice l u t p)) : m e :=
  (dn h).elim fun q z => PySem.Expr.Slice.elim (motive_1 := fun e => ∀ q, PySem.Expr.Slice.elim (motive_1 := fun _ => Bool) e q k = true → m e) e q (fun l u t p _ z => f l u t p z) q z
section
variable {α : Type}
noncomputable def onC (l : List α) (k : α → List α → Bool) : Bool := match l with
  | [] => false
  | x :: r => k x r
theorem Zc7 {m : List α → Prop} {l : List α} {k : α → List α → Bool} (h : onC l k = true) (f : ∀ x r, k x r = true → m (x :: r)) : m l := match l, h with
  | [], h => Bool.noConfusion h
  | x :: r, h => f x r h
theorem Zbx {m : List α → Prop} {l : List α} (h : l.isEmpty = true) (f : m []) : m l := match l, h with
  | [], _ => f
  | _ :: _, h => Bool.noConfusion h
noncomputable def on1 (l : List α) (k : α → Bool) : Bool := onC l fun x r => r.isEmpty && k x
theorem Ze3 {m : List α → Prop} {l : List α} {k : α → Bool} (h : on1 l k = true) (f : ∀ x, k x = true → m [x]) : m l :=
  Zc7 h fun x _ h => Zbx (m := fun r => m (x :: r)) (and2 h).1 (f x (and2 h).2)
noncomputable def on2 (l : List α) (k : α → α → Bool) : Bool := onC l fun x r => on1 r (k x)
theorem Zk3 {m : List α → Prop} {l : List α} {k : α → α → Bool} (h : on2 l k = true) (f : ∀ x y, k x y = true → m [x, y]) : m l :=
  Zc7 h fun x _ h => Ze3 (m := fun r => m (x :: r)) h (f x)
noncomputable def Zhf (o : Option α) (k : α → Bool) : Bool := match o with
  | none => false
  | some x => k x
theorem Zep {m : Option α → Prop} {o : Option α} {k : α → Bool} (h : Zhf o k = true) (f : ∀ x, k x = true → m (some x)) : m o := match o, h with
  | none, h => Bool.noConfusion h
  | some x, h => f x h
end
noncomputable def Zib (sc : Scope) (id : Str) : Bool := match sc.names.lookup id with
  | some .local => true
  | some .cell => true
  | some .free => true
  | _ => false
noncomputable def Zl7 (sc : Scope) (id : Str) : Bool := sc.names.lookup id == some .globalImplicit
noncomputable def Zdr (id : Str) : Bool := !(id == ("__debug__" : Str)) && !(id == ("__classdict__" : Str))
noncomputable def Zfp (e : PySem.Expr) : Bool := e.ctorIdx != 16 || Zjo e fun f _ _ _ => Zh7 f fun _ _ _ => true
noncomputable def Zhh (e : PySem.Expr) : Bool := e.ctorIdx != 26
noncomputable def Zcu (e : PySem.Expr) : Bool := e.ctorIdx != 22
noncomputable def Zbr (sc : Scope) (n : String) (e : PySem.Expr) : Bool := Zh6 e fun id _ => id == Str.ofString n && Zl7 sc id && Zdr id
noncomputable def Zh8 (e : PySem.Expr) : Bool := e.ctorIdx != 7
noncomputable def isLC (e : PySem.Expr) : Bool := e.ctorIdx == 8
noncomputable def Zv4 (v : AV) (cc : Const) : Bool := match v with
  | .none => cc == .none
  | .bool a => cc == .bool a
  | .int a => cc == .int a
  | .str a => cc == .str a && PyData.strOk a
  | .ref _ => false
noncomputable def Zpf (e : X) : Bool := e.ctorIdx == (X.comp (.var 0) 0 false (.var 0) none).ctorIdx
noncomputable def Zdn (nm : List Str) (ts : List Str) : List Str := nm.map fun x => if ts.contains x then ⟨#[]⟩ else x
noncomputable def Zcz : List PySem.Expr → List Str → Bool
  | [], ts => ts.isEmpty
  | e :: r, ts => onC ts fun t q => (Zh6 e fun id _ => id == t) && Zcz r q
noncomputable def Zvt (e : PySem.Expr) : Str := if h : e.ctorIdx = 23 then PySem.Expr.Name.elim (motive_1 := fun _ => Str) e h (fun n _ => n) else ⟨#[]⟩
inductive TgN : PySem.Expr → Bool → List Str → Prop
  | name {t p} : TgN (.Name t p) false [t]
  | tup {es k p ts} : Zcz es ts = true → TgN (.Tuple es k p) true ts
noncomputable def Zb6 (sc csc : Scope) (nm ts : List Str) : Bool :=
  csc.kind == .function && ts.all (fun t => csc.names.lookup t == some .local && t.length != 0 && Zdr t) && decide ts.Nodup && !nm.contains (Str.ofString ".0") &&
  csc.names.all (fun p => p.2 != .cell && (p.2 != .local || (csc.names.lookup p.1 == some .local && (ts.contains p.1 || p.1 == Str.ofString ".0"))) && (p.2 != .free || (sc.names.lookup p.1 == some .cell && nm.contains p.1 && csc.names.lookup p.1 == some .free)) && p.1.length != 0)
abbrev EB := PySem.Expr → Bool
section
variable {m : PySem.Expr → Prop} {e : PySem.Expr} {sc : Scope} {nm : List Str} {a b c d i : EB} {xs : List PySem.Expr → Bool}
theorem Zl2 {n : String} (h : Zbr sc n e = true) (f : ∀ id p, Zbr sc n (.Name id p) = true → m (.Name id p)) : m e := Zb4 h f
noncomputable def mLit (v : AV) (e : PySem.Expr) : Bool := Zop e fun cc _ _ => Zv4 v cc
noncomputable def mVar (sc : Scope) (nm : List Str) (i : Nat) (e : PySem.Expr) : Bool := Zh6 e fun id _ => nm[i]? == some id && Zib sc id && Zdr id
theorem Zrj {i : Nat} (h : mVar sc nm i e = true) (f : ∀ id p, nm[i]? = some id → Zib sc id = true → Zdr id = true → m (.Name id p)) : m e :=
  Zb4 h fun id p h => have h2 := and2 h; have h1 := and2 h2.1; f id p (eq_of_beq h1.1) h1.2 h2.2
noncomputable def mBin (op : Operator) (a b : EB) (e : PySem.Expr) : Bool := Zvj e fun l op' r _ => op' == op && a l && b r
theorem Zrp {op : Operator} (h : mBin op a b e = true) (f : ∀ l r p, a l = true → b r = true → m (.BinOp l op r p)) : m e :=
  Zoq h fun l _ r p h => have h2 := and2 h; have h1 := and2 h2.1; eq_of_beq h1.1 ▸ f l r p h1.2 h2.2
noncomputable def mNeg (a : EB) (e : PySem.Expr) : Bool := onUn e fun o x _ => o == .USub && a x
theorem Zrm (h : mNeg a e = true) (f : ∀ x p, a x = true → m (.UnaryOp .USub x p)) : m e :=
  Zl1 h fun _ x p h => eq_of_beq (and2 h).1 ▸ f x p (and2 h).2
noncomputable def mNot (a : EB) (e : PySem.Expr) : Bool := onUn e fun o x _ => o == .Not && a x
theorem Zrl (h : mNot a e = true) (f : ∀ x p, a x = true → m (.UnaryOp .Not x p)) : m e :=
  Zl1 h fun _ x p h => eq_of_beq (and2 h).1 ▸ f x p (and2 h).2
noncomputable def mAo (isAnd : Bool) (xs : List PySem.Expr → Bool) (e : PySem.Expr) : Bool := Zsp e fun op vs _ => (op == (if isAnd then PySem.BoolOp.And else PySem.BoolOp.Or)) && xs vs
theorem Ztt {isAnd : Bool} (h : mAo isAnd xs e = true) (f : ∀ vs p, xs vs = true → m (.BoolOp (if isAnd then PySem.BoolOp.And else PySem.BoolOp.Or) vs p)) : m e :=
  Zm6 h fun _ vs p h => eq_of_beq (and2 h).1 ▸ f vs p (and2 h).2
noncomputable def mCmp (op : CmpOp) (a b : EB) (e : PySem.Expr) : Bool := Ztm e fun l os rs _ => on1 os fun op' => on1 rs fun r => op' == op && !behindInMarks op' r && a l && b r
theorem not1 {b : Bool} (h : (!b) = true) : b = false := match b, h with
  | false, _ => rfl
  | true, h => Bool.noConfusion h
theorem Zro {op : CmpOp} (h : mCmp op a b e = true) (f : ∀ l r p, behindInMarks op r = false → a l = true → b r = true → m (.Compare l [op] [r] p)) : m e :=
  Zjn h fun l os rs p h => Ze3 (m := fun os => m (.Compare l os rs p)) h fun o h => Ze3 (m := fun rs => m (.Compare l [o] rs p)) h fun r h =>
    have h2 := and2 h; have h1 := and2 h2.1; have h0 := and2 h1.1; eq_of_beq h0.1 ▸ f l r p (eq_of_beq h0.1 ▸ not1 h0.2) h1.2 h2.2
noncomputable def Zvz (op1 op2 : CmpOp) (a b d : EB) (e : PySem.Expr) : Bool := Ztm e fun l os rs _ => on2 os fun o₁ o₂ => on2 rs fun r₁ r₂ => (o₁ == op1 && o₂ == op2) && (!lastMarks [op1, op2] [r₁, r₂] && a l && b r₁ && d r₂)
theorem Zo2 {op1 op2 : CmpOp} (h : Zvz op1 op2 a b d e = true) (f : ∀ l r₁ r₂ p, lastMarks [op1, op2] [r₁, r₂] = false → a l = true → b r₁ = true → d r₂ = true → m (.Compare l [op1, op2] [r₁, r₂] p)) : m e :=
  Zjn h fun l os rs p h => Zk3 (m := fun os => m (.Compare l os rs p)) h fun o₁ o₂ h => Zk3 (m := fun rs => m (.Compare l [o₁, o₂] rs p)) h fun r₁ r₂ h =>
    have h4 := and2 h; have h3 := and2 h4.2; have h2 := and2 h3.1; have h1 := and2 h2.1; eq_of_beq (and2 h4.1).1 ▸ eq_of_beq (and2 h4.1).2 ▸ f l r₁ r₂ p (not1 h1.1) h1.2 h2.2 h3.2
noncomputable def mSub (a i : EB) (e : PySem.Expr) : Bool := Zrd e fun v sl _ => Zhh sl && a v && i sl
theorem Zl4 (h : mSub a i e = true) (f : ∀ v sl p, Zhh sl = true → a v = true → i sl = true → m (.Subscript v sl p)) : m e :=
  Zjm h fun v sl p h => have h2 := and2 h; have h1 := and2 h2.1; f v sl p h1.1 h1.2 h2.2
noncomputable def Zsv (a : EB) (lo hi st : Option PySem.Expr → Bool) (e : PySem.Expr) : Bool := Zrd e fun v sl _ => Zol sl fun l u t _ => a v && lo l && hi u && st t
theorem Znb {lo hi st : Option PySem.Expr → Bool} (h : Zsv a lo hi st e = true) (f : ∀ v l u t p q, a v = true → lo l = true → hi u = true → st t = true → m (.Subscript v (.Slice l u t p) q)) : m e :=
  Zjm h fun v sl q h => Zk1 (m := fun sl => m (.Subscript v sl q)) h fun l u t p h => have h3 := and2 h; have h2 := and2 h3.1; have h1 := and2 h2.1; f v l u t p q h1.1 h1.2 h2.2 h3.2
noncomputable def Zv0 (a : EB) (n : String) (e : PySem.Expr) : Bool := Zh7 e fun v at' _ => at' == Str.ofString n && Zfp v && a v
theorem Zo4 {n : String} (h : Zv0 a n e = true) (f : ∀ v p, Zfp v = true → a v = true → m (.Attribute v (Str.ofString n) p)) : m e :=
  Zeq h fun v _ p h => have h2 := and2 h; have h1 := and2 h2.1; eq_of_beq h1.1 ▸ f v p h1.2 h2.2
noncomputable def Zo3 (sc : Scope) (ok : Bool) (f : String) (xs : List PySem.Expr → Bool) (e : PySem.Expr) : Bool := Zjo e fun fe args ks _ => ks.isEmpty && Zbr sc f fe && ok && xs args
theorem Zfj {ok : Bool} {n : String} (h : Zo3 sc ok n xs e = true) (f : ∀ fe args p, Zbr sc n fe = true → ok = true → xs args = true → m (.Call fe args [] p)) : m e :=
  Zfx h fun fe args _ p h => have h3 := and2 h; have h2 := and2 h3.1; have h1 := and2 h2.1; Zbx (m := fun ks => m (.Call fe args ks p)) h1.1 (f fe args p h1.2 h2.2 h3.2)
noncomputable def Ztr (n : String) (a : EB) (xs : List PySem.Expr → Bool) (e : PySem.Expr) : Bool := Zjo e fun fe args ks pos => Zh7 fe fun o name apos => (ks.isEmpty && name == Str.ofString n) && ((apos.endLine == pos.line) && Zfp o && decide (args.length < 29) && a o && xs args)
theorem Zjt {n : String} (h : Ztr n a xs e = true) (f : ∀ o apos args pos, (apos.endLine == pos.line) = true → Zfp o = true → args.length < 29 → a o = true → xs args = true → m (.Call (.Attribute o (Str.ofString n) apos) args [] pos)) : m e :=
  Zfx h fun fe args ks pos h => Zeq (m := fun fe => m (.Call fe args ks pos)) h fun o _ apos h =>
    have h5 := and2 h; have h0 := and2 h5.1; have h4 := and2 h5.2; have h3 := and2 h4.1; have h2 := and2 h3.1; have h1 := and2 h2.1
    eq_of_beq h0.2 ▸ Zbx (m := fun ks => m (.Call (.Attribute o _ apos) args ks pos)) h0.1 (eq_of_beq h0.2 ▸ f o apos args pos h1.1 h1.2 (of_decide_eq_true h2.2) h3.2 h4.2)
noncomputable def mIsi (P : Pg) (sc : Scope) (a : EB) (ty : String) (e : PySem.Expr) : Bool := Zjo e fun fe args ks _ => on2 args fun x t => (ks.isEmpty && Zcu x) && (Zbr sc "isinstance" fe && P.prims.contains "isinstance" && (P.prims.contains ty || (P.excs.lookup ty).isSome) && Zbr sc ty t && a x)
theorem Zrn {P : Pg} {ty : String} (h : mIsi P sc a ty e = true) (f : ∀ fe x t p, Zcu x = true → Zbr sc "isinstance" fe = true → P.prims.contains "isinstance" = true → (P.prims.contains ty || (P.excs.lookup ty).isSome) = true → Zbr sc ty t = true → a x = true → m (.Call fe [x, t] [] p)) : m e :=
  Zfx h fun fe args ks p h => Zk3 (m := fun args => m (.Call fe args ks p)) h fun x t h =>
    have h5 := and2 h; have h0 := and2 h5.1; have h4 := and2 h5.2; have h3 := and2 h4.1; have h2 := and2 h3.1; have h1 := and2 h2.1
    Zbx (m := fun ks => m (.Call fe [x, t] ks p)) h0.1 (f fe x t p h0.2 h1.1 h1.2 h2.2 h3.2 h4.2)
noncomputable def Zvx (xs : List PySem.Expr → Bool) (e : PySem.Expr) : Bool := Zsm e fun es _ => xs es && decide (es.length < 1000)
theorem Zo1 (h : Zvx xs e = true) (f : ∀ es p, xs es = true → es.length < 1000 → m (.List es p)) : m e :=
  Zm4 h fun es p h => f es p (and2 h).1 (of_decide_eq_true (and2 h).2)
noncomputable def mTup (xs : List PySem.Expr → Bool) (e : PySem.Expr) : Bool := Zrc e fun es _ _ => xs es && decide (es.length < 1000)
theorem Zrk (h : mTup xs e = true) (f : ∀ es k p, xs es = true → es.length < 1000 → m (.Tuple es k p)) : m e :=
  Zhe h fun es k p h => f es k p (and2 h).1 (of_decide_eq_true (and2 h).2)
noncomputable def Zts (ks vs : List X) (mk : List (Option PySem.Expr) → Bool) (mv : List PySem.Expr → Bool) (e : PySem.Expr) : Bool := Zso e fun ks' vs' _ => match ks, vs with
  | [], [] => ks'.isEmpty && vs'.isEmpty
  | [_], [_] => mk ks' && mv vs'
  | _, _ => false
theorem Znd {mk : List (Option PySem.Expr) → Bool} {mv : List PySem.Expr → Bool} (h : Zts [] [] mk mv e = true) (f : ∀ p, m (.Dict [] [] p)) : m e :=
  Zc1 h fun ks vs p h => Zbx (m := fun ks => m (.Dict ks vs p)) (and2 h).1 (Zbx (m := fun vs => m (.Dict [] vs p)) (and2 h).2 (f p))
theorem Znc {k v : X} {mk : List (Option PySem.Expr) → Bool} {mv : List PySem.Expr → Bool} (h : Zts [k] [v] mk mv e = true) (f : ∀ ks vs p, mk ks = true → mv vs = true → m (.Dict ks vs p)) : m e :=
  Zc1 h fun ks vs p h => f ks vs p (and2 h).1 (and2 h).2
noncomputable def goOk (k : Nat) (sc csc : Scope) (nm : List Str) (it : EB) (x : Scope → List Str → EB) (c : Scope → List Str → List PySem.Expr → Bool) (elt iter : PySem.Expr) (ifs : List PySem.Expr) (ia : Int) (ts : List Str) : Bool :=
  (ia == 0 && k == ts.length) && (Zh8 iter && it iter && Zb6 sc csc nm ts && x csc (Zdn nm ts ++ ts) elt && c csc (Zdn nm ts ++ ts) ifs)
noncomputable def Zvy (top tup : Bool) (k : Nat) (sc : Scope) (nm : List Str) (it : EB) (x : Scope → List Str → EB) (c : Scope → List Str → List PySem.Expr → Bool) (e : PySem.Expr) : Bool := top && (onLC e fun elt gs csc _ => on1 gs fun g =>
  match tup with
  | false => Zh6 g.target fun t _ => goOk k sc csc nm it x c elt g.iter g.ifs g.is_async [t]
  | true => Zrc g.target fun es _ _ => Zcz es (es.map Zvt) && goOk k sc csc nm it x c elt g.iter g.ifs g.is_async (es.map Zvt))
structure Zs0 (k : Nat) (sc csc : Scope) (nm ts : List Str) (it : EB) (x : Scope → List Str → EB) (c : Scope → List Str → List PySem.Expr → Bool) (elt iter : PySem.Expr) (ifs : List PySem.Expr) : Prop where
  len : k = ts.length
  set : Zh8 iter = true
  it : it iter = true
  sc : Zb6 sc csc nm ts = true
  x : x csc (Zdn nm ts ++ ts) elt = true
  c : c csc (Zdn nm ts ++ ts) ifs = true
theorem Zmc {tup : Bool} {k : Nat} {it : EB} {x : Scope → List Str → EB} {c : Scope → List Str → List PySem.Expr → Bool} {csc : Scope} {elt tg iter : PySem.Expr} {ifs : List PySem.Expr} {ia : Int} {p : Pos} {ts : List Str}
    (f : ∀ elt tg iter ifs csc ts p, TgN tg tup ts → Zs0 k sc csc nm ts it x c elt iter ifs → m (.ListComp elt [⟨tg, iter, ifs, 0⟩] csc p)) (ht : TgN tg tup ts) (h : goOk k sc csc nm it x c elt iter ifs ia ts = true) : m (.ListComp elt [⟨tg, iter, ifs, ia⟩] csc p) :=
  have h5 := and2 h; have h0 := and2 h5.1; have h4 := and2 h5.2; have h3 := and2 h4.1; have h2 := and2 h3.1; have h1 := and2 h2.1
  eq_of_beq h0.1 ▸ f elt tg iter ifs csc ts p ht ⟨eq_of_beq h0.2, h1.1, h1.2, h2.2, h3.2, h4.2⟩
theorem Zju {top tup : Bool} {k : Nat} {it : EB} {x : Scope → List Str → EB} {c : Scope → List Str → List PySem.Expr → Bool} (h : Zvy top tup k sc nm it x c e = true)
    (f : ∀ elt tg iter ifs csc ts p, TgN tg tup ts → Zs0 k sc csc nm ts it x c elt iter ifs → m (.ListComp elt [⟨tg, iter, ifs, 0⟩] csc p)) : m e := by
  refine Zre (and2 h).2 fun elt gs csc p h => Ze3 (m := fun gs => m (.ListComp elt gs csc p)) h fun G h => ?_
  cases G with
  | mk tg iter ifs ia =>
  cases tup with
  | false => exact Zb4 (m := fun tg => m (.ListComp elt [⟨tg, iter, ifs, ia⟩] csc p)) h fun _ _ h => Zmc f .name h
  | true => exact Zhe (m := fun tg => m (.ListComp elt [⟨tg, iter, ifs, ia⟩] csc p)) h fun _ _ _ h => Zmc f (.tup (and2 h).1) (and2 h).2
end
mutual
noncomputable def mtX (P : Pg) (top : Bool) (sc : Scope) (nm : List Str) : X → PySem.Expr → Bool
  | .lit v, e => mLit v e
  | .var i, e => mVar sc nm i e
  | .glob n, e => Zbr sc n e
  | .bin op a b, e => mBin op (mtX P top sc nm a) (mtX P top sc nm b) e
  | .neg a, e => mNeg (mtX P top sc nm a) e
  | .not a, e => mNot (mtX P top sc nm a) e
  | .ao isAnd xs, e => mAo isAnd (mtXs P top sc nm xs) e
  | .cmp op a b, e => mCmp op (mtX P top sc nm a) (mtX P top sc nm b) e
  | .cmp2 op1 op2 a b d, e => Zvz op1 op2 (mtX P top sc nm a) (mtX P top sc nm b) (mtX P top sc nm d) e
  | .sub a i, e => mSub (mtX P top sc nm a) (mtX P top sc nm i) e
  | .slice a lo hi st, e => Zsv (mtX P top sc nm a) (mtO P top sc nm lo) (mtO P top sc nm hi) (mtO P top sc nm st) e
  | .attr a n, e => Zv0 (mtX P top sc nm a) n e
  | .call f xs, e => Zo3 sc (P.gfns.contains f) f (mtXs P top sc nm xs) e
  | .new cl xs, e => Zo3 sc (P.classes.contains cl) cl (mtXs P top sc nm xs) e
  | .meth a m xs, e => Ztr m (mtX P top sc nm a) (mtXs P top sc nm xs) e
  | .bm a m xs, e => Ztr m.str (mtX P top sc nm a) (mtXs P top sc nm xs) e
  | .prim f xs, e => Zo3 sc (P.prims.contains f.str) f.str (mtXs P top sc nm xs) e
  | .isinst a ty, e => mIsi P sc (mtX P top sc nm a) ty e
  | .list xs, e => Zvx (mtXs P top sc nm xs) e
  | .tuple xs, e => mTup (mtXs P top sc nm xs) e
  | .dict ks vs, e => Zts ks vs (mtOs P top sc nm ks) (mtXs P top sc nm vs) e
  | .comp x k tup it c, e => Zvy top tup k sc nm (mtX P top sc nm it) (fun csc nm' => mtX P false csc nm' x) (fun csc nm' => mtC P csc nm' c) e
noncomputable def mtXs (P : Pg) (top : Bool) (sc : Scope) (nm : List Str) : List X → List PySem.Expr → Bool
  | [], es => es.isEmpty
  | x :: r, es => onC es fun e q => mtX P top sc nm x e && Zcu e && mtXs P top sc nm r q
noncomputable def mtO (P : Pg) (top : Bool) (sc : Scope) (nm : List Str) : Option X → Option PySem.Expr → Bool
  | none, e => e.isNone
  | some x, e => Zhf e fun e => mtX P top sc nm x e
noncomputable def mtOs (P : Pg) (top : Bool) (sc : Scope) (nm : List Str) : List X → List (Option PySem.Expr) → Bool
  | [], es => es.isEmpty
  | x :: r, es => onC es fun o q => (Zhf o fun e => mtX P top sc nm x e) && mtOs P top sc nm r q
noncomputable def mtC (P : Pg) (sc : Scope) (nm : List Str) : Option X → List PySem.Expr → Bool
  | none, es => es.isEmpty
  | some x, es => on1 es fun e => mtX P false sc nm x e
end
noncomputable def Zdm (sc : Scope) (id : Str) : Bool := match sc.names.lookup id with
  | some .local => true
  | some .cell => true
  | _ => false
inductive OVW : Option AV → Option Value → Prop
  | none {x} : OVW Option.none x
  | some {a v} : VR a v → OVW (Option.some a) (Option.some v)
structure Frm (R : RR) (env : Env) (sc : Scope) (nm : List Str) (V : VV) : Prop where
  kind : env.scope.kind = .function
  glob : env.globals = mainGlobals
  blt : env.builtins = builtinsNs
  sco : ∀ id, Zl7 sc id = true → env.kindOf id = some .globalImplicit
  kok : ∀ id, Zib sc id = true → env.kindOf id = some .local ∨ env.kindOf id = some .cell ∨ env.kindOf id = some .free
  lok : ∀ id, Zdm sc id = true → env.kindOf id = some .local ∨ env.kindOf id = some .cell
  lco : ∀ id, sc.names.lookup id = some .local → env.kindOf id = some .local
  cco : ∀ id, sc.names.lookup id = some .cell → env.kindOf id = some .cell
  len : V.length = nm.length
  inj : ∀ n n' a, env.cells.lookup n = some a → env.cells.lookup n' = some a → n = n'
  ns : ∃ m, R env.locals = some (.ns m) ∧ ∀ (i : Nat) n, nm[i]? = some n → env.kindOf n = some .local → ∃ v, V[i]? = some v ∧ OVW v (m n)
  cell : ∀ (i : Nat) n, nm[i]? = some n → (env.kindOf n = some .cell ∨ env.kindOf n = some .free) → ∃ a x v, env.cells.lookup n = some a ∧ R a = some (.cell x) ∧ V[i]? = some v ∧ OVW v x
noncomputable def veM : List Value := [.type "ValueError", .type "Exception", .type "BaseException", .type "object"]
noncomputable def typeNames : List String := ["int", "bool", "str", "list"]
structure PgOk (c : Cx) : Prop where
  fn : ∀ f, c.P.gfns.contains f = true → nsIn c.K mainGlobals (Str.ofString f) = some (some (.ref (c.fa f))) ∧ keepIn c.K (.ref (c.fa f)) = true
  cls : ∀ cl, c.P.classes.contains cl = true → nsIn c.K mainGlobals (Str.ofString cl) = some (some (.ref (c.ca cl))) ∧ keepIn c.K (.ref (c.ca cl)) = true ∧ makesIn c.K (c.ca cl) = true ∧
    findIn c.K (.ref (c.ca cl)) "__init__" = some (some (.ref (c.fa (cl ++ ".__init__")))) ∧ isFn c.K (.ref (c.fa (cl ++ ".__init__"))) = true
  meth : ∀ cl m, c.P.meths.contains (cl, m) = true → plainGet c.K (c.ca cl) (Str.ofString m) = true ∧ findIn c.K (.ref (c.ca cl)) (Str.ofString m) = some (some (.ref (c.fa (cl ++ "." ++ m)))) ∧ isFn c.K (.ref (c.fa (cl ++ "." ++ m))) = true ∧
    keepIn c.K (.ref (c.fa (cl ++ "." ++ m))) = true
  attr : ∀ cl n, c.P.attrs.contains (cl, n) = true → plainGet c.K (c.ca cl) (Str.ofString n) = true ∧ hasDictIn c.K (c.ca cl) = true ∧ findIn c.K (.ref (c.ca cl)) (Str.ofString n) = some none ∧
    findIn c.K (.ref (c.ca cl)) "__setattr__" = some (some (.builtin "object.__setattr__")) ∧ plainOver c.K (c.ca cl) = true ∧ takerIn c.K (c.ca cl) (Str.ofString n) = some none
  prim : ∀ f, c.P.prims.contains f = true → nsIn c.K mainGlobals (Str.ofString f) = some none ∧ (Str.ofString f == Str.ofString "__name__") = false ∧ bootBuiltins (Str.ofString f) = some (Zgs f)
  exc : ∀ cl ty, ((c.P.excs.lookup cl).map (·.contains ty)).getD false = true → c.P.prims.contains ty = true → ty = "ValueError" ∧ subIn c.K (.ref (c.ca cl)) (.type ty) = some true
  excR : ∀ cl, (c.P.excs.lookup cl).isSome = true → nsIn c.K mainGlobals (Str.ofString cl) = some (some (.ref (c.ca cl))) ∧ excIn c.K (c.ca cl) veM "ValueError.__new__" = true ∧ instIn c.K (.ref (c.ca cl)) (.type "tuple") = some false ∧ subIn c.K (.ref (c.ca cl)) (.type "BaseException") = some true ∧ (clsIn c.K (c.ca cl)).isSome = true ∧
    typeIn c.K (.ref (c.ca cl)) = some (.type "type") ∧ instIn c.K (.ref (c.ca cl)) (.type "type") = some true ∧ typeNames.contains cl = false
  excC : ∀ cl d, (c.P.excs.lookup cl).isSome = true → (c.P.excs.lookup d).isSome = true → subIn c.K (.ref (c.ca cl)) (.ref (c.ca d)) = some (Zdj c.P cl d)
  excG : ∀ cl, (c.P.excs.lookup cl).isSome = true → findIn c.K (.ref (c.ca cl)) "__getattribute__" = some (some (.builtin "BaseException.__getattribute__")) ∧ findIn c.K (.ref (c.ca cl)) "__getattr__" = some none ∧ findIn c.K (.ref (c.ca cl)) "__class__" = some (some (.builtin "object.__class__")) ∧
    specialIn c.K (.builtin "object.__class__") "__get__" = some (some (.builtin "getset_descriptor.__get__")) ∧ takesIn c.K (.builtin "object.__class__") = some true ∧ mroIn c.K (c.ca cl) (.type "object") = some true ∧ Zdj c.P cl cl = true
  const : ∀ n v, c.P.consts.lookup n = some v → ∃ x, nsIn c.K mainGlobals (Str.ofString n) = some (some x) ∧ VR v x
end Mine
namespace Mine
noncomputable def Zvg (e : PySem.Stmt) (k : Option PySem.Expr → Pos → Bool) : Bool := if h : e.ctorIdx = 3 then PySem.Stmt.Return.elim (motive_2 := fun _ => Bool) e h k else false
theorem Zom {m : PySem.Stmt → Prop} {e : PySem.Stmt} {k : Option PySem.Expr → Pos → Bool} (h : Zvg e k = true) (f : ∀ v p, k v p = true → m (.Return v p)) : m e :=
  (dn h).elim fun q z => PySem.Stmt.Return.elim (motive_2 := fun e => ∀ q, PySem.Stmt.Return.elim (motive_2 := fun _ => Bool) e q k = true → m e) e q (fun v p _ z => f v p z) q z
noncomputable def Zvk (e : PySem.Stmt) (k : List PySem.Expr → PySem.Expr → Pos → Bool) : Bool := if h : e.ctorIdx = 5 then PySem.Stmt.Assign.elim (motive_2 := fun _ => Bool) e h k else false
theorem Zor {m : PySem.Stmt → Prop} {e : PySem.Stmt} {k : List PySem.Expr → PySem.Expr → Pos → Bool} (h : Zvk e k = true) (f : ∀ ts v p, k ts v p = true → m (.Assign ts v p)) : m e :=
  (dn h).elim fun q z => PySem.Stmt.Assign.elim (motive_2 := fun e => ∀ q, PySem.Stmt.Assign.elim (motive_2 := fun _ => Bool) e q k = true → m e) e q (fun ts v p _ z => f ts v p z) q z
noncomputable def Zvi (e : PySem.Stmt) (k : PySem.Expr → PySem.Expr → List Stmt → List Stmt → Pos → Bool) : Bool := if h : e.ctorIdx = 9 then PySem.Stmt.For.elim (motive_2 := fun _ => Bool) e h k else false
theorem Zoo {m : PySem.Stmt → Prop} {e : PySem.Stmt} {k : PySem.Expr → PySem.Expr → List Stmt → List Stmt → Pos → Bool} (h : Zvi e k = true) (f : ∀ t i b o p, k t i b o p = true → m (.For t i b o p)) : m e :=
  (dn h).elim fun q z => PySem.Stmt.For.elim (motive_2 := fun e => ∀ q, PySem.Stmt.For.elim (motive_2 := fun _ => Bool) e q k = true → m e) e q (fun t i b o p _ z => f t i b o p z) q z
noncomputable def Zoj (e : PySem.Stmt) (k : PySem.Expr → List Stmt → List Stmt → Pos → Bool) : Bool := if h : e.ctorIdx = 11 then PySem.Stmt.While.elim (motive_2 := fun _ => Bool) e h k else false
theorem Zk0 {m : PySem.Stmt → Prop} {e : PySem.Stmt} {k : PySem.Expr → List Stmt → List Stmt → Pos → Bool} (h : Zoj e k = true) (f : ∀ t b o p, k t b o p = true → m (.While t b o p)) : m e :=
  (dn h).elim fun q z => PySem.Stmt.While.elim (motive_2 := fun e => ∀ q, PySem.Stmt.While.elim (motive_2 := fun _ => Bool) e q k = true → m e) e q (fun t b o p _ z => f t b o p z) q z
noncomputable def Zvh (e : PySem.Stmt) (k : PySem.Expr → List Stmt → List Stmt → Pos → Bool) : Bool := if h : e.ctorIdx = 12 then PySem.Stmt.If.elim (motive_2 := fun _ => Bool) e h k else false
theorem Zon {m : PySem.Stmt → Prop} {e : PySem.Stmt} {k : PySem.Expr → List Stmt → List Stmt → Pos → Bool} (h : Zvh e k = true) (f : ∀ t b o p, k t b o p = true → m (.If t b o p)) : m e :=
  (dn h).elim fun q z => PySem.Stmt.If.elim (motive_2 := fun e => ∀ q, PySem.Stmt.If.elim (motive_2 := fun _ => Bool) e q k = true → m e) e q (fun t b o p _ z => f t b o p z) q z
noncomputable def onRaise (e : PySem.Stmt) (k : Option PySem.Expr → Option PySem.Expr → Pos → Bool) : Bool := if h : e.ctorIdx = 16 then PySem.Stmt.Raise.elim (motive_2 := fun _ => Bool) e h k else false
theorem Zk2 {m : PySem.Stmt → Prop} {e : PySem.Stmt} {k : Option PySem.Expr → Option PySem.Expr → Pos → Bool} (h : onRaise e k = true) (f : ∀ x c p, k x c p = true → m (.Raise x c p)) : m e :=
  (dn h).elim fun q z => PySem.Stmt.Raise.elim (motive_2 := fun e => ∀ q, PySem.Stmt.Raise.elim (motive_2 := fun _ => Bool) e q k = true → m e) e q (fun x c p _ z => f x c p z) q z
noncomputable def Zvf (e : PySem.Stmt) (k : List Stmt → List ExceptHandler → List Stmt → List Stmt → Pos → Bool) : Bool := if h : e.ctorIdx = 17 then PySem.Stmt.Try.elim (motive_2 := fun _ => Bool) e h k else false
theorem Zok {m : PySem.Stmt → Prop} {e : PySem.Stmt} {k : List Stmt → List ExceptHandler → List Stmt → List Stmt → Pos → Bool} (h : Zvf e k = true) (f : ∀ b hs o fi p, k b hs o fi p = true → m (.Try b hs o fi p)) : m e :=
  (dn h).elim fun q z => PySem.Stmt.Try.elim (motive_2 := fun e => ∀ q, PySem.Stmt.Try.elim (motive_2 := fun _ => Bool) e q k = true → m e) e q (fun b hs o fi p _ z => f b hs o fi p z) q z
noncomputable def Zsn (e : PySem.Stmt) (k : PySem.Expr → Pos → Bool) : Bool := if h : e.ctorIdx = 24 then PySem.Stmt.Expr.elim (motive_2 := fun _ => Bool) e h k else false
theorem Zm5 {m : PySem.Stmt → Prop} {e : PySem.Stmt} {k : PySem.Expr → Pos → Bool} (h : Zsn e k = true) (f : ∀ v p, k v p = true → m (.Expr v p)) : m e :=
  (dn h).elim fun q z => PySem.Stmt.Expr.elim (motive_2 := fun e => ∀ q, PySem.Stmt.Expr.elim (motive_2 := fun _ => Bool) e q k = true → m e) e q (fun v p _ z => f v p z) q z
noncomputable def Zsl (e : PySem.Stmt) (k : Pos → Bool) : Bool := if h : e.ctorIdx = 25 then PySem.Stmt.Pass.elim (motive_2 := fun _ => Bool) e h k else false
theorem Zm3 {m : PySem.Stmt → Prop} {e : PySem.Stmt} {k : Pos → Bool} (h : Zsl e k = true) (f : ∀ p, k p = true → m (.Pass p)) : m e :=
  (dn h).elim fun q z => PySem.Stmt.Pass.elim (motive_2 := fun e => ∀ q, PySem.Stmt.Pass.elim (motive_2 := fun _ => Bool) e q k = true → m e) e q (fun p _ z => f p z) q z
noncomputable def Ze4 (e : PySem.Expr) : Bool := e.ctorIdx != 8 && e.ctorIdx != 9 && e.ctorIdx != 10 && e.ctorIdx != 7
noncomputable def Zmr (sc : Scope) (nm : List Str) (i : Nat) (e : PySem.Expr) : Bool := Zh6 e fun id _ => nm[i]? == some id && Zdm sc id
theorem Zgz {sc : Scope} {nm : List Str} {i : Nat} {m : PySem.Expr → Prop} {e : PySem.Expr} (h : Zmr sc nm i e = true) (f : ∀ id p, nm[i]? = some id → Zdm sc id = true → m (.Name id p)) : m e :=
  Zb4 h fun id p h => f id p (eq_of_beq (and2 h).1) (and2 h).2
noncomputable def Zhs (sc : Scope) (nm : List Str) : List Nat → List PySem.Expr → Bool
  | [], es => es.isEmpty
  | i :: is, es => onC es fun e r => Zmr sc nm i e && Zhs sc nm is r
noncomputable def Zs3 (sc : Scope) (nm : List Str) (is : List Nat) (e : PySem.Expr) : Bool := Zrc e fun es _ _ => Zhs sc nm is es
noncomputable def tgOk (sc : Scope) (nm : List Str) (t : Tg) (e : PySem.Expr) : Bool := match t with
  | .var i => Zmr sc nm i e
  | .tup is => Zs3 sc nm is e
noncomputable def Zsr (e : PySem.Expr) : Bool := e.ctorIdx != 25
noncomputable def mtT (P : Pg) (sc : Scope) (nm : List Str) (t : T) (e : PySem.Expr) : Bool := match t with
  | .var i => Zmr sc nm i e
  | .sub a i => Zrd e fun v sl _ => Zhh sl && mtX P true sc nm a v && mtX P true sc nm i sl
  | .attr a n => Zh7 e fun v at' _ => at' == Str.ofString n && mtX P true sc nm a v
  | .tup _ => false
noncomputable def Zou : T → Bool
  | .tup _ => false
  | _ => true
noncomputable def Zvw (msg : Str) (es : List PySem.Expr) : Bool := on1 es fun e => mLit (.str msg) e
noncomputable def nmOk (sc : Scope) (nm : List Str) (nmi : Option Nat) (name : Option Str) : Bool := match nmi with
  | none => name.isNone
  | some i => Zhf name fun n => nm[i]? == some n && sc.names.lookup n == some .local
mutual
noncomputable def mtS (P : Pg) (sc : Scope) (nm : List Str) : S → Stmt → Bool
  | .assign t e, st => Zvk st fun ts v _ => on1 ts fun tg => (Ze4 v || (isLC v && Zpf e)) && (Zsr v || Zou t) && mtT P sc nm t tg && mtX P true sc nm e v
  | .expr e, st => Zsn st fun v _ => Ze4 v && mtX P true sc nm e v
  | .ret e, st => Zvg st fun v _ => Zhf v fun v => mtX P true sc nm e v
  | .ite c a b, st => Zvh st fun t x y _ => mtX P true sc nm c t && mtSs P sc nm a x && mtSs P sc nm b y
  | .while c b, st => Zoj st fun t x o _ => o.isEmpty && (mtX P true sc nm c t && mtSs P sc nm b x)
  | .for t it b, st => Zvi st fun tg iter x o _ => o.isEmpty && (Zh8 iter && tgOk sc nm t tg && mtX P true sc nm it iter && mtSs P sc nm b x)
  | .raise cl msg, st => onRaise st fun c z _ => z.isNone && Zhf c fun c => Zo3 sc (P.excs.lookup cl).isSome cl (Zvw msg) c
  | .try b hs, st => Zvf st fun x hs' o z _ => (o.isEmpty && z.isEmpty) && (mtSs P sc nm b x && onC hs' fun h₀ r => mtHs P sc nm hs (h₀ :: r))
  | .pass, st => Zsl st fun _ => true
noncomputable def mtSs (P : Pg) (sc : Scope) (nm : List Str) : List S → List Stmt → Bool
  | [], es => es.isEmpty
  | x :: r, es => onC es fun e q => mtS P sc nm x e && mtSs P sc nm r q
noncomputable def mtHs (P : Pg) (sc : Scope) (nm : List Str) : List Hd → List ExceptHandler → Bool
  | [], es => es.isEmpty
  | h :: r, es => onC es fun e q => mtH P sc nm h e && mtHs P sc nm r q
noncomputable def mtH (P : Pg) (sc : Scope) (nm : List Str) : Hd → ExceptHandler → Bool
  | .mk cl nmi b, e => match e with
    | .ExceptHandler ty name body _ => Zhf ty fun t => onC body fun x body => Zbr sc cl t && (P.excs.lookup cl).isSome && mtSs P sc nm b (x :: body) && nmOk sc nm nmi name
end
end Mine
end
section
open PySem PySem.W PyProof.Rows PySem.Spec PySem.SeqAt PySem.Calls
namespace Mine
noncomputable def HX (g : Gx) (A : Around) (R : RR) (V : VV) (s0 : Shared) (x : X) (t : Sem Value) : Prop :=
  ∀ (H : Zaa) (s : Shared) (Q : AV → Zaa → Prop) (E : String → Zaa → Prop), St g.c R H s.heap → Sm s0 s → wpX g x V Q E H → wpAny (model g.c.prog g.c.w) A t (TQ g R s0 Q) (TE g R s0 E) s
inductive TTi (c : Cx) (R : RR) (s0 : Shared) (Q : AV → Bool → Zaa → Prop) (b : Bool) (s' : Shared) : Prop
  | mk (v : AV) (H' : Zaa) (S : St c R H' s'.heap) (m : Sm s0 s') (q : Q v b H') (h : ∀ P : Bool → Prop, Zbh v H' P → P b) : TTi c R s0 Q b s'
noncomputable def TT (g : Gx) (R : RR) (s0 : Shared) (Q : AV → Bool → Zaa → Prop) (b : Bool) (s' : Shared) : Prop := TTi g.c R s0 Q b s'
noncomputable def HT (g : Gx) (A : Around) (R : RR) (V : VV) (s0 : Shared) (x : X) (t : Sem Bool) : Prop :=
  ∀ (H : Zaa) (s : Shared) (Q : AV → Bool → Zaa → Prop) (E : String → Zaa → Prop), St g.c R H s.heap → Sm s0 s → wpX g x V (fun v H => Zbh v H fun b => Q v b H) E H →
    wpAny (model g.c.prog g.c.w) A t (TT g R s0 Q) (TE g R s0 E) s
inductive TQsi (c : Cx) (R : RR) (s0 : Shared) (Q : List AV → Zaa → Prop) (vs : List Value) (s' : Shared) : Prop
  | mk (as : List AV) (H' : Zaa) (hv : VRs as vs) (S : St c R H' s'.heap) (m : Sm s0 s') (q : Q as H') : TQsi c R s0 Q vs s'
noncomputable def TQs (g : Gx) (R : RR) (s0 : Shared) (Q : List AV → Zaa → Prop) (vs : List Value) (s' : Shared) : Prop := TQsi g.c R s0 Q vs s'
noncomputable def HXs (g : Gx) (A : Around) (R : RR) (V : VV) (s0 : Shared) (xs : List X) (t : Sem (List Value)) : Prop :=
  ∀ (H : Zaa) (s : Shared) (Q : List AV → Zaa → Prop) (E : String → Zaa → Prop), St g.c R H s.heap → Sm s0 s → wpXs g xs V Q E H → wpAny (model g.c.prog g.c.w) A t (TQs g R s0 Q) (TE g R s0 E) s
theorem Zkl {v : AV} {H : Zaa} {P : Bool → Prop} (h : Zbh v H P) : ∃ b, P b ∧ (∀ P' : Bool → Prop, Zbh v H P' → P' b) ∧ ∀ P' : Bool → Prop, P' b → Zbh v H P' := by
  cases v with
  | none => exact ⟨_, h, fun _ x => x, fun _ x => x⟩
  | bool b => exact ⟨_, h, fun _ x => x, fun _ x => x⟩
  | int i => exact ⟨_, h, fun _ x => x, fun _ x => x⟩
  | str s => exact ⟨_, h.2, fun _ x => x.2, fun _ x => ⟨h.1, x⟩⟩
  | ref a =>
    have t : ∀ {P' : Bool → Prop}, Zbh (.ref a) H P' = _ := Zut
    rw [t] at h; simp only [t]
    generalize H a = o at h ⊢
    cases o with
    | none => exact h.elim
    | some o => cases o with
      | list xs => exact ⟨_, h.2, fun P' x => x.2, fun P' x => ⟨h.1, x⟩⟩
      | tuple xs => exact ⟨_, h.2, fun P' x => x.2, fun P' x => ⟨h.1, x⟩⟩
      | _ => exact h.elim
section
variable {g : Gx} {A : Around} {R : RR} {V : VV} {s0 : Shared} {env : Env} {mg mb : Str → Option Value} {e₀ : Env} {l₀ : List Env}
theorem Zgq {H : Zaa} {s : Shared} {v : Value} {a : AV} {Q : AV → Bool → Zaa → Prop} {E : Value → Shared → Prop} (hv : VR a v) (S : St g.c R H s.heap) (m : Sm s0 s) (q : Zbh a H (fun b => Q a b H)) :
    wpAny (model g.c.prog g.c.w) A (truthy v) (TT g R s0 Q) E s := by
  obtain ⟨b, qb, hb, hb'⟩ := Zkl q
  refine wpAny_mono (Zir (A := A) (E := E) (Qb := fun b' H' => H' = H ∧ b' = b) hv S m (hb' _ ⟨rfl, rfl⟩)) (fun b' s' h => ?_) fun _ _ x => x
  obtain ⟨H', S', m', e1, e2⟩ := h
  subst e1 e2
  exact ⟨a, H', S', m', qb, hb⟩
theorem HT.plain {x : X} {e : PySem.Expr} {whole : Sem Value} (h : HX g A R V s0 x whole) (he : isTrue e env whole = (do let v ← whole; standAt e.pos; holding [v] (truthy v))) :
    HT g A R V s0 x (isTrue e env whole) := fun H s Q E S m q => by
  refine isTrue_plain (wpAny_mono (h H s _ E S m q) (fun v s' z => ?_) fun _ _ z => z) he
  obtain ⟨a, H', hv, S', m', q'⟩ := z
  exact Zgq hv S' m' q'
theorem Zwb {v : AV} {cc : Const} {k : Nat} {p : Pos} (hc : Zv4 v cc = true) : HX g A R V s0 (.lit v) (eval (.Constant cc k p) env) := fun H s Q E S m q => by
  cases v with
  | none => rw [eq_of_beq hc]; exact wpAny_Constant_none (TQ.pure .none S m q)
  | bool b => rw [eq_of_beq hc]; exact wpAny_Constant_bool (TQ.pure (.bool _) S m q)
  | int i => rw [eq_of_beq hc]; exact wpAny_Constant_int (TQ.toks (.int _ _) S m q)
  | str x => rw [eq_of_beq (and2 hc).1]; exact wpAny_Constant_str (TQ.toks (.str _ _ (and2 hc).2) S m q)
  | ref a => exact Bool.noConfusion hc
theorem Zv6 {sc : Scope} {nm : List Str} {i : Nat} {id : Str} {p : Pos} (fr : Frm R env sc nm V) (h1 : nm[i]? = some id) (h2 : Zib sc id = true) (h3 : Zdr id = true) :
    HX g A R V s0 (.var i) (eval (.Name id p) env) := fun H s Q E S m q => by
  unfold Zdr at h3
  simp only [Bool.and_eq_true, Bool.not_eq_true'] at h3
  dsimp only [Zag, Zae, Zaw, Zbm, Za9, x_ao, Zak, Za3, Zau, Zav, Za1, Zal, Zar, x_bm, Zbl, Zam, Zbg, Zch, Zap, Za7, Za4, Zbc, Zbd] at q
  rcases fr.kok id h2 with k | k | k
  · obtain ⟨mm, r1, r2⟩ := fr.ns
    obtain ⟨v, e, ov⟩ := r2 i id h1 k
    rw [e] at q
    generalize hw : mm id = w at ov
    cases ov with
    | none => exact q.elim
    | some hv => exact wpAny_Name (wpAny_loadName_local fr.kind k (S.res _ _ r1).2 hw (TQ.pure hv S m q)) h3.1
  · obtain ⟨a, x, v, e1, e2, e3, ov⟩ := fr.cell i id h1 (.inl k)
    rw [e3] at q
    cases ov with
    | none => exact q.elim
    | some hv => exact wpAny_Name (wpAny_loadName_cell fr.kind k e1 (S.res _ _ e2).2 (TQ.pure hv S m q)) h3.1
  · obtain ⟨a, x, v, e1, e2, e3, ov⟩ := fr.cell i id h1 (.inr k)
    rw [e3] at q
    cases ov with
    | none => exact q.elim
    | some hv => exact wpAny_Name (wpAny_loadName_free fr.kind k e1 (S.res _ _ e2).2 (TQ.pure hv S m q) h3.2) h3.1
theorem Zie {sc : Scope} {nm : List Str} {n : String} {e : PySem.Expr} {v : Value} {H : Zaa} {s : Shared} {Q : Value → Shared → Prop} {E : Value → Shared → Prop} (C : g.c.Ok mg mb) (fr : Frm R env sc nm V) (S : St g.c R H s.heap)
    (hn : Zbr sc n e = true) (hk : nsIn g.c.K mainGlobals (Str.ofString n) = some (some v)) (q : Q v s) : wpAny (model g.c.prog g.c.w) A (eval e env) Q E s := by
  refine Zb4 (m := fun e => wpAny (model g.c.prog g.c.w) A (eval e env) Q E s) hn fun id p hn => ?_
  have h2 := and2 hn; have h1 := and2 h2.1
  refine Name_function_global fr.kind (fr.sco _ h1.2) (loadGlobal_global (mg := mg) ?_ (eq_of_beq h1.1 ▸ mg_of C.kin C.g hk) q) (not1 (and2 h2.2).1)
  rw [fr.glob]; exact C.g.keeps S.stays
theorem Zmd {sc : Scope} {nm : List Str} {n : String} {e : PySem.Expr} {v : Value} {H : Zaa} {s : Shared} {Q : Value → Shared → Prop} {E : Value → Shared → Prop} (C : g.c.Ok mg mb) (fr : Frm R env sc nm V) (S : St g.c R H s.heap)
    (hn : Zbr sc n e = true) (hk : nsIn g.c.K mainGlobals (Str.ofString n) = some none) (hne : (Str.ofString n == Str.ofString "__name__") = false) (hb : bootBuiltins (Str.ofString n) = some v) (q : Q v s) :
    wpAny (model g.c.prog g.c.w) A (eval e env) Q E s := by
  refine Zb4 (m := fun e => wpAny (model g.c.prog g.c.w) A (eval e env) Q E s) hn fun id p hn => ?_
  have h2 := and2 hn; have h1 := and2 h2.1
  have he := eq_of_beq h1.1
  refine Name_function_global fr.kind (fr.sco _ h1.2) (loadGlobal_builtin (mg := mg) (mb := mb) ?_ (he ▸ mg_none_of C.kin C.g hk) ?_ (he ▸ (C.builtins _ (ne_of_beq_false hne)).trans hb) q) (not1 (and2 h2.2).1)
  · rw [fr.glob]; exact C.g.keeps S.stays
  · rw [fr.blt]; exact C.b.keeps S.stays
set_option tactic.hygienic true in
theorem Zt3 {sc : Scope} {nm : List Str} {n : String} {e : PySem.Expr} (C : g.c.Ok mg mb) (PO : PgOk g.c) (fr : Frm R env sc nm V) (hn : Zbr sc n e = true) : HX g A R V s0 (.glob n) (eval e env) := fun H s Q E S m q => by
  dsimp only [Zag, Zae, Zaw, Zbm, Za9, x_ao, Zak, Za3, Zau, Zav, Za1, Zal, Zar, x_bm, Zbl, Zam, Zbg, Zch, Zap, Za7, Za4, Zbc, Zbd] at q
  split at q
  · rename_i v hv
    obtain ⟨x, h1, h2⟩ := PO.const n v hv
    exact Zie C fr S hn h1 (TQ.pure h2 S m q)
  · exact q.elim
theorem Zwe {op : Operator} {a b : X} {l r : PySem.Expr} {p : Pos} (C : g.c.Ok mg mb) (ev : Ev g A R e₀ l₀) (ha : HX g A R V s0 a (eval l env)) (hb : HX g A R V s0 b (eval r env)) : HX g A R V s0 (.bin op a b) (eval (.BinOp l op r p) env) :=
  fun H s Q E S m q => by
  dsimp only [Zag, Zae, Zaw, Zbm, Za9, x_ao, Zak, Za3, Zau, Zav, Za1, Zal, Zar, x_bm, Zbl, Zam, Zbg, Zch, Zap, Za7, Za4, Zbc, Zbd] at q
  refine wpAny_BinOp (wpAny_mono (ha H s _ E S m q) (fun u s₁ z => ?_) fun _ _ z => z)
  obtain ⟨au, H₁, hu, S₁, m₁, q₁⟩ := z
  refine wpAny_mono (hb H₁ s₁ _ E S₁ m₁ q₁) (fun v s₂ z => ?_) fun _ _ z => z
  obtain ⟨av, H₂, hv, S2, m₂, q₂⟩ := z
  exact Zxg C ev hu hv S2 m₂ q₂
theorem Zwa {a : X} {l : PySem.Expr} {p : Pos} (ha : HX g A R V s0 a (eval l env)) : HX g A R V s0 (.neg a) (eval (.UnaryOp .USub l p) env) := fun H s Q E S m q => by
  dsimp only [Zag, Zae, Zaw, Zbm, Za9, x_ao, Zak, Za3, Zau, Zav, Za1, Zal, Zar, x_bm, Zbl, Zam, Zbg, Zch, Zap, Za7, Za4, Zbc, Zbd] at q
  refine wpAny_UnaryOp (wpAny_mono (ha H s _ E S m q) (fun u s₁ z => ?_) fun _ _ z => z)
  obtain ⟨au, H₁, hu, S₁, m₁, q₁⟩ := z
  split at q₁
  · cases hu; exact neg_int (TQ.toks (.int _ _) S₁ m₁ q₁)
  · exact q₁.elim
theorem Zv8 {a : X} {l : PySem.Expr} {p : Pos} (ha : HX g A R V s0 a (eval l env)) : HX g A R V s0 (.not a) (eval (.UnaryOp .Not l p) env) := fun H s Q E S m q => by
  dsimp only [Zag, Zae, Zaw, Zbm, Za9, x_ao, Zak, Za3, Zau, Zav, Za1, Zal, Zar, x_bm, Zbl, Zam, Zbg, Zch, Zap, Za7, Za4, Zbc, Zbd] at q
  refine wpAny_UnaryOp (wpAny_mono (ha H s _ E S m q) (fun u s₁ z => ?_) fun _ _ z => z)
  obtain ⟨au, H₁, hu, S₁, m₁, q₁⟩ := z
  refine not_of (wpAny_mono (Zir hu S₁ m₁ (Qb := fun b H => Q (.bool (!b)) H) q₁) (fun b s₂ z => ?_) fun _ _ z => z)
  obtain ⟨H₂, S2, m₂, q₂⟩ := z
  exact TQ.pure (.bool _) S2 m₂ q₂
theorem Zwf {a : X} {l : PySem.Expr} {p : Pos} {whole : Sem Value} (ha : HT g A R V s0 a (isTrue l env (eval l env))) : HT g A R V s0 (.not a) (isTrue (.UnaryOp .Not l p) env whole) := fun H s Q E S m q => by
  dsimp only [Zag, Zae, Zaw, Zbm, Za9, x_ao, Zak, Za3, Zau, Zav, Za1, Zal, Zar, x_bm, Zbl, Zam, Zbg, Zch, Zap, Za7, Za4, Zbc, Zbd] at q
  refine isTrue_not (wpAny_mono (ha H s (fun _ b H => Q (.bool (!b)) (!b) H) E S m q) (fun b s₁ z => ?_) fun _ _ z => z)
  obtain ⟨v, H₁, S₁, m₁, q₁, _⟩ := z
  exact ⟨.bool (!b), H₁, S₁, m₁, q₁, fun P z => z⟩
theorem Zwd {op : CmpOp} {a b : X} {l r : PySem.Expr} {p : Pos} (C : g.c.Ok mg mb) (ev : Ev g A R e₀ l₀) (hm : behindInMarks op r = false) (ha : HX g A R V s0 a (eval l env)) (hb : HX g A R V s0 b (eval r env)) :
    HX g A R V s0 (.cmp op a b) (eval (.Compare l [op] [r] p) env) := fun H s Q E S m q => by
  dsimp only [Zag, Zae, Zaw, Zbm, Za9, x_ao, Zak, Za3, Zau, Zav, Za1, Zal, Zar, x_bm, Zbl, Zam, Zbg, Zch, Zap, Za7, Za4, Zbc, Zbd] at q
  refine wpAny_Compare1 (wpAny_mono (ha H s _ E S m q) (fun u s₁ z => ?_) fun _ _ z => z) hm
  obtain ⟨au, H₁, hu, S₁, m₁, q₁⟩ := z
  refine wpAny_mono (hb H₁ s₁ _ E S₁ m₁ q₁) (fun v s₂ z => ?_) fun _ _ z => z
  obtain ⟨av, H₂, hv, S2, m₂, q₂⟩ := z
  exact Zmu C ev hu hv S2 m₂ q₂
theorem Zwg {op : CmpOp} {a b : X} {l r : PySem.Expr} {p : Pos} {whole : Sem Value} (C : g.c.Ok mg mb) (ev : Ev g A R e₀ l₀) (hm : behindInMarks op r = false) (ha : HX g A R V s0 a (eval l env)) (hb : HX g A R V s0 b (eval r env)) :
    HT g A R V s0 (.cmp op a b) (isTrue (.Compare l [op] [r] p) env whole) := fun H s Q E S m q => by
  dsimp only [Zag, Zae, Zaw, Zbm, Za9, x_ao, Zak, Za3, Zau, Zav, Za1, Zal, Zar, x_bm, Zbl, Zam, Zbg, Zch, Zap, Za7, Za4, Zbc, Zbd] at q
  refine wpAny_isTrue_Compare1 (wpAny_mono (ha H s _ E S m q) (fun u s₁ z => ?_) fun _ _ z => z) hm
  obtain ⟨au, H₁, hu, S₁, m₁, q₁⟩ := z
  refine wpAny_mono (hb H₁ s₁ _ E S₁ m₁ q₁) (fun v s₂ z => ?_) fun _ _ z => z
  obtain ⟨av, H₂, hv, S2, m₂, q₂⟩ := z
  refine wpAny_mono (Zmu C ev hu hv S2 m₂ q₂) (fun c s₃ z => ?_) fun _ _ z => z
  obtain ⟨ac, H₃, hc, S3, m3, q₃⟩ := z
  exact Zgq hc S3 m3 q₃
theorem Zwp {M : Model} {E : Value → Shared → Prop} {s : Shared} {pos : Pos} {a : Value} {op1 op2 : CmpOp} {t₁ t₂ : Sem Value} {Q : Value → Shared → Prop}
    (h : wpAny M A t₁ (fun b s₁ => wpAny M A (compareOp op1 a b) (fun c s₂ => wpAny M A (truthy c) (fun t s₃ => if t then wpAny M A t₂ (fun d s₄ => wpAny M A (compareOp op2 b d) Q E s₄) E s₃ else Q c s₃) E s₂) E s₁) E s) :
    wpAny M A (compareChain pos a [op1, op2] [t₁, t₂]) Q E s := by
  show wpAny M A (do
    let rv ← holding [a] t₁
    standAt pos
    let c ← holding [a, rv] (compareOp op1 a rv)
    release [a, rv] [c]
    if ← holding [c, rv] (truthy c) then compareChain pos rv [op2] [t₂] else pure c) Q E s
  refine wpAny_bind (wpAny_holding (wpAny_mono h (fun b s₁ z => ?_) fun _ _ z => z))
  refine wpAny_bind (wpAny_standAt (wpAny_bind (wpAny_holding (wpAny_mono z (fun c s₂ z => ?_) fun _ _ z => z))))
  refine wpAny_bind (wpAny_release (wpAny_bind (wpAny_holding (wpAny_mono z (fun t s₃ z => ?_) fun _ _ z => z))))
  cases t with
  | false => exact wpAny_pure z
  | true =>
    show wpAny M A (do
      let rv ← holding [b] t₂
      standAt pos
      operate [b, rv] (compareOp op2 b rv)) Q E s₃
    exact wpAny_bind (wpAny_holding (wpAny_mono z (fun d s₄ z => wpAny_bind (wpAny_standAt (wpAny_operating z))) fun _ _ z => z))
theorem Zw3 {M : Model} {E : Value → Shared → Prop} {s : Shared} {pos : Pos} {a : Value} {op1 op2 : CmpOp} {t₁ t₂ : Sem Value} {Q : Bool → Shared → Prop}
    (h : wpAny M A t₁ (fun b s₁ => wpAny M A (compareOp op1 a b) (fun c s₂ => wpAny M A (truthy c) (fun t s₃ => if t then wpAny M A t₂ (fun d s₄ => wpAny M A (compareOp op2 b d) (fun c' s5 => wpAny M A (truthy c') Q E s5) E s₄) E s₃ else Q false s₃) E s₂) E s₁) E s) :
    wpAny M A (testChain pos a [op1, op2] [t₁, t₂]) Q E s := by
  show wpAny M A (do
    let rv ← holding [a] t₁
    standAt pos
    let c ← holding [a, rv] (compareOp op1 a rv)
    release [a, rv] [c]
    if ← holding [c, rv] (truthy c) then testChain pos rv [op2] [t₂] else pure false) Q E s
  refine wpAny_bind (wpAny_holding (wpAny_mono h (fun b s₁ z => ?_) fun _ _ z => z))
  refine wpAny_bind (wpAny_standAt (wpAny_bind (wpAny_holding (wpAny_mono z (fun c s₂ z => ?_) fun _ _ z => z))))
  refine wpAny_bind (wpAny_release (wpAny_bind (wpAny_holding (wpAny_mono z (fun t s₃ z => ?_) fun _ _ z => z))))
  cases t with
  | false => exact wpAny_pure z
  | true =>
    show wpAny M A (do
      let rv ← holding [b] t₂
      standAt pos
      let c ← operate [b, rv] (compareOp op2 b rv)
      holding [c] (truthy c)) Q E s₃
    exact wpAny_bind (wpAny_holding (wpAny_mono z (fun d s₄ z => wpAny_bind (wpAny_standAt (wpAny_bind (wpAny_operating (wpAny_mono z (fun c' s5 z => wpAny_holding z) fun _ _ z => z))))) fun _ _ z => z))
theorem Zt5 {op1 op2 : CmpOp} {a b d : X} {l r₁ r₂ : PySem.Expr} {p : Pos} (C : g.c.Ok mg mb) (ev : Ev g A R e₀ l₀) (hm : lastMarks [op1, op2] [r₁, r₂] = false)
    (ha : HX g A R V s0 a (eval l env)) (hb : HX g A R V s0 b (eval r₁ env)) (hd : HX g A R V s0 d (eval r₂ env)) :
    HX g A R V s0 (.cmp2 op1 op2 a b d) (eval (.Compare l [op1, op2] [r₁, r₂] p) env) := fun H s Q E S m q => by
  dsimp only [Zag, Zae, Zaw, Zbm, Za9, x_ao, Zak, Za3, Zau, Zav, Za1, Zal, Zar, x_bm, Zbl, Zam, Zbg, Zch, Zap, Za7, Za4, Zbc, Zbd] at q
  rw [arm_eval_Compare, markedEach_of_false _ _ _ hm]
  refine wpAny_bind (wpAny_mono (ha H s _ E S m q) (fun u s₁ z => ?_) fun _ _ z => z)
  obtain ⟨au, H₁, hu, S₁, m₁, q₁⟩ := z
  refine Zwp (wpAny_mono (hb H₁ s₁ _ E S₁ m₁ q₁) (fun v s₂ z => ?_) fun _ _ z => z)
  obtain ⟨av, H₂, hv, S2, m₂, q₂⟩ := z
  refine wpAny_mono (Zmu C ev hu hv S2 m₂ q₂) (fun c s₃ z => ?_) fun _ _ z => z
  obtain ⟨ac, H₃, hc, S3, m3, q₃⟩ := z
  refine wpAny_mono (Zir (Qb := fun t H => if t then wpX g d V (fun z H => wcmp op2 av z Q H) E H else Q ac H) hc S3 m3 q₃) (fun t s₄ z => ?_) fun _ _ z => z
  obtain ⟨H₄, S4, m4, q₄⟩ := z
  cases t with
  | false => exact TQ.pure hc S4 m4 q₄
  | true =>
    refine wpAny_mono (hd H₄ s₄ _ E S4 m4 q₄) (fun w s5 z => ?_) fun _ _ z => z
    obtain ⟨aw, H₅, hw, S5, m5, q5⟩ := z
    exact Zmu C ev hv hw S5 m5 q5
theorem Zt8 {op1 op2 : CmpOp} {a b d : X} {l r₁ r₂ : PySem.Expr} {p : Pos} {whole : Sem Value} (C : g.c.Ok mg mb) (ev : Ev g A R e₀ l₀) (hm : lastMarks [op1, op2] [r₁, r₂] = false)
    (ha : HX g A R V s0 a (eval l env)) (hb : HX g A R V s0 b (eval r₁ env)) (hd : HX g A R V s0 d (eval r₂ env)) :
    HT g A R V s0 (.cmp2 op1 op2 a b d) (isTrue (.Compare l [op1, op2] [r₁, r₂] p) env whole) := fun H s Q E S m q => by
  dsimp only [Zag, Zae, Zaw, Zbm, Za9, x_ao, Zak, Za3, Zau, Zav, Za1, Zal, Zar, x_bm, Zbl, Zam, Zbg, Zch, Zap, Za7, Za4, Zbc, Zbd] at q
  rw [arm_isTrue_Compare, markedEach_of_false _ _ _ hm]
  refine wpAny_bind (wpAny_mono (ha H s _ E S m q) (fun u s₁ z => ?_) fun _ _ z => z)
  obtain ⟨au, H₁, hu, S₁, m₁, q₁⟩ := z
  refine Zw3 (wpAny_mono (hb H₁ s₁ _ E S₁ m₁ q₁) (fun v s₂ z => ?_) fun _ _ z => z)
  obtain ⟨av, H₂, hv, S2, m₂, q₂⟩ := z
  refine wpAny_mono (Zmu C ev hu hv S2 m₂ q₂) (fun c s₃ z => ?_) fun _ _ z => z
  obtain ⟨ac, H₃, hc, S3, m3, q₃⟩ := z
  refine wpAny_mono (Zgq (Q := fun ac t H => if t then wpX g d V (fun z H => wcmp op2 av z (fun v H => Zbh v H fun b => Q v b H) H) E H else Zbh ac H fun b => Q ac b H) hc S3 m3 q₃) (fun t s₄ z => ?_) fun _ _ z => z
  obtain ⟨ac', H₄, S4, m4, q₄, hb4⟩ := z
  cases t with
  | false =>
    simp only [Bool.false_eq_true, if_false] at q₄ ⊢
    exact ⟨ac', H₄, S4, m4, hb4 _ q₄, hb4⟩
  | true =>
    simp only [if_true] at q₄ ⊢
    refine wpAny_mono (hd H₄ s₄ _ E S4 m4 q₄) (fun w s5 z => ?_) fun _ _ z => z
    obtain ⟨aw, H₅, hw, S5, m5, q5⟩ := z
    refine wpAny_mono (Zmu C ev hv hw S5 m5 q5) (fun c' s6 z => ?_) fun _ _ z => z
    obtain ⟨ac'', H₆, hc'', S6, m6, q6⟩ := z
    exact Zgq hc'' S6 m6 q6
inductive Each (P : X → PySem.Expr → Prop) : List X → List PySem.Expr → Prop
  | nil : Each P [] []
  | cons {x e xs es} : P x e → Each P xs es → Each P (x :: xs) (e :: es)
theorem Zxt {isAnd : Bool} {p : Pos} {xs : List X} {es : List PySem.Expr} (h : Each (fun x e => HX g A R V s0 x (eval e env)) xs es) : HX g A R V s0 (.ao isAnd xs) (boolOp p (if isAnd then .And else .Or) (evalEach es env)) := by
  induction h with
  | nil => exact fun H s Q E S m q => q.elim
  | @cons x e _ _ hx r ih =>
  cases r with
  | nil =>
    intro H s Q E S m q
    dsimp only [Zag, Zae, Zaw, Zbm, Za9, x_ao, Zak, Za3, Zau, Zav, Za1, Zal, Zar, x_bm, Zbl, Zam, Zbg, Zch, Zap, Za7, Za4, Zbc, Zbd, Za5, Zat] at q
    show wpAny _ _ (eval e env) _ _ _
    exact hx H s Q E S m q
  | @cons y f xs es hy r =>
    intro H s Q E S m q
    dsimp only [Zag, Zae, Zaw, Zbm, Za9, x_ao, Zak, Za3, Zau, Zav, Za1, Zal, Zar, x_bm, Zbl, Zam, Zbg, Zch, Zap, Za7, Za4, Zbc, Zbd] at q ih
    rw [Zat] at q
    show wpAny _ _ (do
      let v ← eval e env
      standAt p
      let t ← holding [v] (truthy v)
      match (if isAnd then PySem.BoolOp.And else PySem.BoolOp.Or), t with
      | .And, false | .Or, true => pure v
      | _, _ => boolOp p (if isAnd then .And else .Or) (evalEach (f :: es) env)) _ _ _
    refine wpAny_bind (wpAny_mono (hx H s _ E S m q) (fun v s₁ z => ?_) fun _ _ z => z)
    obtain ⟨av, H₁, hv, S₁, m₁, q₁⟩ := z
    refine wpAny_bind (wpAny_standAt (wpAny_bind (wpAny_holding (wpAny_mono (Zir (Qb := fun b H => if b = isAnd then wpAO g isAnd (y :: xs) V Q E H else Q av H) hv S₁ m₁ q₁) (fun t s₂ z => ?_) fun _ _ z => z))))
    obtain ⟨H₂, S2, m₂, q₂⟩ := z
    have ih' := ih H₂ s₂ Q E S2 m₂
    dsimp only [Zag, Zae, Zaw, Zbm, Za9, x_ao, Zak, Za3, Zau, Zav, Za1, Zal, Zar, x_bm, Zbl, Zam, Zbg, Zch, Zap, Za7, Za4, Zbc, Zbd] at ih'
    cases isAnd <;> cases t <;> simp only [Bool.false_eq_true, if_false, if_true, reduceIte] at q₂ ih' ⊢
    · exact ih' q₂
    · exact wpAny_pure (TQ.pure hv S2 m₂ q₂)
    · exact wpAny_pure (TQ.pure hv S2 m₂ q₂)
    · exact ih' q₂
theorem Zxu {isAnd : Bool} {xs : List X} {es : List PySem.Expr} (h : Each (fun x e => HT g A R V s0 x (isTrue e env (eval e env))) xs es) : HT g A R V s0 (.ao isAnd xs) (allTrue (if isAnd then .And else .Or) es env) := by
  induction h with
  | nil => exact fun H s Q E S m q => q.elim
  | @cons x e _ _ hx r ih =>
  cases r with
  | nil =>
    intro H s Q E S m q
    dsimp only [Zag, Zae, Zaw, Zbm, Za9, x_ao, Zak, Za3, Zau, Zav, Za1, Zal, Zar, x_bm, Zbl, Zam, Zbg, Zch, Zap, Za7, Za4, Zbc, Zbd, Za5, Zat] at q
    rw [arm_allTrue_cons]
    refine wpAny_bind (wpAny_mono (hx H s Q E S m q) (fun t s₁ z => ?_) fun _ _ z => z)
    cases isAnd <;> cases t <;> exact wpAny_pure z
  | @cons y f xs es hy r =>
    intro H s Q E S m q
    dsimp only [Zag, Zae, Zaw, Zbm, Za9, x_ao, Zak, Za3, Zau, Zav, Za1, Zal, Zar, x_bm, Zbl, Zam, Zbg, Zch, Zap, Za7, Za4, Zbc, Zbd] at q
    rw [Zat] at q
    rw [arm_allTrue_cons]
    refine wpAny_bind (wpAny_mono (hx H s (fun v b H => if b = isAnd then wpAO g isAnd (y :: xs) V (fun v H => Zbh v H fun b => Q v b H) E H else Zbh v H fun b => Q v b H) E S m q) (fun t s₁ z => ?_) fun _ _ z => z)
    obtain ⟨v, H₁, S₁, m₁, q₁, hb⟩ := z
    have ih' := ih H₁ s₁ Q E S₁ m₁
    dsimp only [Zag, Zae, Zaw, Zbm, Za9, x_ao, Zak, Za3, Zau, Zav, Za1, Zal, Zar, x_bm, Zbl, Zam, Zbg, Zch, Zap, Za7, Za4, Zbc, Zbd] at ih'
    cases isAnd <;> cases t <;> simp only [Bool.false_eq_true, if_false, if_true, reduceIte] at q₁ ih' ⊢
    · exact ih' q₁
    · exact wpAny_pure ⟨v, H₁, S₁, m₁, hb (fun b => Q v b H₁) q₁, hb⟩
    · exact wpAny_pure ⟨v, H₁, S₁, m₁, hb (fun b => Q v b H₁) q₁, hb⟩
    · exact ih' q₁
end
end Mine
end
section
open PySem PySem.W PyProof.Rows PySem.Spec PySem.SeqAt PySem.Calls
namespace Mine
theorem Zbe {e : PySem.Expr} {r : List PySem.Expr} {env : Env} (h : Zcu e = true) : starEach (e :: r) env = (false, eval e env) :: starEach r env := by
  cases e <;> first | rfl | exact Bool.noConfusion h
theorem Zcd {pos : Pos} {t : Sem Value} {r : List (Bool × Sem Value)} : backTo pos ((false, t) :: r) = (false, t) :: backTo pos r := rfl
section
variable {g : Gx} {A : Around} {R : RR} {V : VV} {s0 : Shared} {env : Env} {mg mb : Str → Option Value} {e₀ : Env} {l₀ : List Env}
abbrev Ze8 (g : Gx) (A : Around) (R : RR) (V : VV) (s0 : Shared) (env : Env) : List X → List PySem.Expr → Prop := Each (fun x e => HX g A R V s0 x (eval e env) ∧ Zcu e = true)
theorem hxs {pos : Pos} {xs : List X} {es : List PySem.Expr} (h : Ze8 g A R V s0 env xs es) : HXs g A R V s0 xs (spliced (backTo pos (starEach es env))) := by
  induction h with
  | nil =>
    intro H s Q E S m q
    exact spliced_nil ⟨[], H, .nil, S, m, q⟩
  | cons hx r ih =>
    intro H s Q E S m q
    dsimp only [Zaf, Zac] at q
    (rw [Zbe hx.2]; dsimp only [Zcd])
    refine spliced_cons (wpAny_mono (hx.1 H s _ E S m q) (fun v s₁ z => ?_) fun _ _ z => z)
    obtain ⟨av, H₁, hv, S₁, m₁, q₁⟩ := z
    refine wpAny_mono (ih H₁ s₁ _ E S₁ m₁ q₁) (fun vs s₂ z => ?_) fun _ _ z => z
    obtain ⟨as, H₂, hvs, S2, m₂, q₂⟩ := z
    exact ⟨av :: as, H₂, .cons hv hvs, S2, m₂, q₂⟩
theorem Zf4 {pos : Pos} {xs : List X} {es : List PySem.Expr} (h : Ze8 g A R V s0 env xs es) : (backTo pos (starEach es env)).any (·.1) = false := by
  induction h with
  | nil => rfl
  | cons hx r ih => (rw [Zbe hx.2]; dsimp only [Zcd]; rw [List.any_cons, ih]); rfl
theorem Zlm {pos : Pos} {f : Value} {xs : List X} {es : List PySem.Expr} {H : Zaa} {s : Shared} {Q' : List AV → Zaa → Prop} {E : String → Zaa → Prop} {Q : Args → Shared → Prop} (hx : Ze8 g A R V s0 env xs es) (S : St g.c R H s.heap) (m : Sm s0 s)
    (q : wpXs g xs V Q' E H) (k : ∀ as vs H' s', VRs as vs → St g.c R H' s'.heap → Sm s0 s' → Q' as H' → Q ⟨vs, []⟩ s') :
    wpAny (model g.c.prog g.c.w) A (evalArgs f true (backTo pos (starEach es env)) []) Q (TE g R s0 E) s := by
  have z := hxs (pos := pos) hx H s Q' E S m q
  cases hx with
  | nil =>
    simp only [Zaf, Zac] at q
    exact evalArgs_nil3 (k [] [] H s .nil S m q)
  | cons hx r =>
    rw [Zbe hx.2, Zcd] at z ⊢
    refine evalArgs_plain (wpAny_mono z (fun vs s' z => ?_) fun _ _ z => z)
    obtain ⟨as, H', h1, h2, h3, h4⟩ := z
    exact k as vs H' s' h1 h2 h3 h4
theorem Zp0 {pos : Pos} {f : Addr} {first : List Value} {xs : List X} {es : List PySem.Expr} {H : Zaa} {s : Shared} {Q' : List AV → Zaa → Prop} {E : String → Zaa → Prop} {Q : Value → Shared → Prop} (C : g.c.Ok mg mb) (hk : keepIn g.c.K (.ref f) = true)
    (hx : Ze8 g A R V s0 env xs es) (S : St g.c R H s.heap) (m : Sm s0 s) (q : wpXs g xs V Q' E H)
    (k : ∀ as vs H' s', VRs as vs → St g.c R H' s'.heap → Sm s0 s' → Q' as H' → wpAny (model g.c.prog g.c.w) A (call (.ref f) (first ++ vs)) Q (TE g R s0 E) s') :
    wpAny (model g.c.prog g.c.w) A (callWith pos (.ref f) first (backTo pos (starEach es env)) []) Q (TE g R s0 E) s :=
  callWith_of (P := fun h => g.c.K.In h) (by rw [Zf4 hx]; rfl) (keeps_K hk) (Zlm hx S m q fun as vs H' s' h1 h2 h3 h4 => ⟨C.kin.keeps h2.stays, k as vs H' s' h1 h2 h3 h4⟩)
theorem Zp1 {pos : Pos} {f : Value} {first : List Value} {xs : List X} {es : List PySem.Expr} {H : Zaa} {s : Shared} {Q' : List AV → Zaa → Prop} {E : String → Zaa → Prop} {Q : Value → Shared → Prop} (hf : (∃ i, f = .builtin i) ∨ ∃ i, f = .type i)
    (hx : Ze8 g A R V s0 env xs es) (S : St g.c R H s.heap) (m : Sm s0 s) (q : wpXs g xs V Q' E H)
    (k : ∀ as vs H' s', VRs as vs → St g.c R H' s'.heap → Sm s0 s' → Q' as H' → wpAny (model g.c.prog g.c.w) A (call f (first ++ vs)) Q (TE g R s0 E) s') :
    wpAny (model g.c.prog g.c.w) A (callWith pos f first (backTo pos (starEach es env)) []) Q (TE g R s0 E) s := by
  rcases hf with ⟨i, rfl⟩ | ⟨i, rfl⟩
  · exact Calls.callWith_builtin (Zf4 hx) (Zlm hx S m q k)
  · exact PyProof.Rows.callWith_type (Zf4 hx) (Zlm hx S m q k)
theorem Zdz {sc : Scope} {n : String} {e : PySem.Expr} (h : Zbr sc n e = true) : ∃ id p, e = .Name id p := by
  exact Zb4 (m := fun e => ∃ id p, e = .Name id p) h fun id p _ => ⟨id, p, rfl⟩
theorem Zj9 {f : String} {as : List AV} {vs : List Value} {H : Zaa} {s : Shared} {Q : AV → Zaa → Prop} {E : String → Zaa → Prop} (ev : Ev g A R e₀ l₀) (hv : VRs as vs) (S : St g.c R H s.heap) (m : Sm s0 s)
    (q : CallOK g.c g.n g.md f as Q E H) : wpAny (model g.c.prog g.c.w) A (call (.ref (g.c.fa f)) vs) (TQ g R s0 Q) (TE g R s0 E) s := by
  refine wpAny_call (q A (e₀ :: l₀) R s vs _ ⟨ev.aok.frames, by have := ev.aok.depth; lia, by have := ev.aok.units; lia, ev.aok.hand⟩ ev.stk S hv ?_ ?_)
  · exact fun av v s' H' h1 h2 h3 h4 => ⟨av, H', h1, h2, m.trans h3, h4⟩
  · exact fun e cl s' H' h1 h2 h3 => ⟨e, cl, H', rfl, h1, m.trans h2, h3⟩
theorem Zt6 {sc : Scope} {nm : List Str} {f : String} {fe : PySem.Expr} {args : List PySem.Expr} {xs : List X} {pos : Pos} (C : g.c.Ok mg mb) (PO : PgOk g.c) (ev : Ev g A R e₀ l₀) (fr : Frm R env sc nm V) (hn : Zbr sc f fe = true)
    (hg : g.c.P.gfns.contains f = true) (hx : Ze8 g A R V s0 env xs args) : HX g A R V s0 (.call f xs) (eval (.Call fe args [] pos) env) := fun H s Q E S m q => by
  dsimp only [Zag, Zae, Zaw, Zbm, Za9, x_ao, Zak, Za3, Zau, Zav, Za1, Zal, Zar, x_bm, Zbl, Zam, Zbg, Zch, Zap, Za7, Za4, Zbc, Zbd] at q
  obtain ⟨h1, h2⟩ := PO.fn f hg
  obtain ⟨id, p, rfl⟩ := Zdz hn
  refine wpAny_Call_NameR (Zie C fr S hn h1 ?_)
  refine Zp0 C h2 hx S m q fun as vs H' s' k1 k2 k3 k4 => ?_
  exact Zj9 ev k1 k2 k3 k4
theorem Zt0 {sc : Scope} {nm : List Str} {f : Pr} {fe : PySem.Expr} {args : List PySem.Expr} {xs : List X} {pos : Pos} (C : g.c.Ok mg mb) (PO : PgOk g.c) (ev : Ev g A R e₀ l₀) (fr : Frm R env sc nm V) (hn : Zbr sc f.str fe = true)
    (hg : g.c.P.prims.contains f.str = true) (hx : Ze8 g A R V s0 env xs args) : HX g A R V s0 (.prim f xs) (eval (.Call fe args [] pos) env) := fun H s Q E S m q => by
  dsimp only [Zag, Zae, Zaw, Zbm, Za9, x_ao, Zak, Za3, Zau, Zav, Za1, Zal, Zar, x_bm, Zbl, Zam, Zbg, Zch, Zap, Za7, Za4, Zbc, Zbd] at q
  obtain ⟨h1, h2, h3⟩ := PO.prim f.str hg
  rw [Zje] at h3
  obtain ⟨id, p, rfl⟩ := Zdz hn
  refine wpAny_Call_NameR (Zmd C fr S hn h1 h2 h3 ?_)
  exact Zp1 (Zmy f) hx S m q fun as vs H' s' k1 k2 k3 k4 => Zuz C ev k1 k2 k3 k4
theorem Zpj {sc : Scope} {nm : List Str} {ty : String} {fe t x : PySem.Expr} {a : X} {pos : Pos} {tv : Value} (C : g.c.Ok mg mb) (PO : PgOk g.c) (fr : Frm R env sc nm V) (hn : Zbr sc "isinstance" fe = true) (hg : g.c.P.prims.contains "isinstance" = true)
    (hst : Zcu t = true) (ht : ∀ {H : Zaa} {s : Shared} {Q : Value → Shared → Prop} {E : Value → Shared → Prop}, St g.c R H s.heap → Q tv s → wpAny (model g.c.prog g.c.w) A (eval t env) Q E s) (hx : HX g A R V s0 a (eval x env)) (hs : Zcu x = true)
    (k : ∀ {av : AV} {v : Value} {H : Zaa} {s : Shared} {Q : AV → Zaa → Prop} {E : String → Zaa → Prop} {b : Bool}, VR av v → St g.c R H s.heap → Sm s0 s → Zcb g.c.P H av ty = some b → Q (.bool b) H → wpAny (model g.c.prog g.c.w) A (call (.builtin "isinstance") [v, tv]) (TQ g R s0 Q) (TE g R s0 E) s) :
    HX g A R V s0 (.isinst a ty) (eval (.Call fe [x, t] [] pos) env) := fun H s Q E S m q => by
  replace q : wpX g a V (fun x H => wisi g.c.P ty x Q H) E H := q
  obtain ⟨h1, h2, h3⟩ := PO.prim _ hg
  refine Zl2 (m := fun fe => wpAny (model g.c.prog g.c.w) A (eval (.Call fe [x, t] [] pos) env) (TQ g R s0 Q) (TE g R s0 E) s) hn fun id p hn => ?_
  refine wpAny_Call_NameR (Zmd C fr S hn h1 h2 h3 ?_)
  refine Calls.callWith_builtin (by rw [Zbe hs, Zbe hst]; rfl) ?_
  (rw [Zbe hs]; dsimp only [Zcd]; rw [Zbe hst]; dsimp only [Zcd])
  refine evalArgs_plain (spliced_cons (wpAny_mono (hx H s _ E S m q) (fun v s₁ z => ?_) fun _ _ z => z))
  obtain ⟨av, H₁, hv, S₁, m₁, q₁⟩ := z
  refine spliced_cons (ht S₁ (spliced_nil ?_))
  unfold wisi at q₁
  cases hb : Zcb g.c.P H₁ av ty with
  | none => rw [hb] at q₁; exact q₁.elim
  | some b => rw [hb] at q₁; exact k hv S₁ m₁ hb q₁
theorem Zhi {sc : Scope} {n : String} {e : PySem.Expr} (h : Zbr sc n e = true) : Zcu e = true := Zb4 (m := fun e => Zcu e = true) h fun _ _ _ => rfl
theorem Zwc {sc : Scope} {nm : List Str} {ty : String} {fe t x : PySem.Expr} {a : X} {pos : Pos} (C : g.c.Ok mg mb) (PO : PgOk g.c) (fr : Frm R env sc nm V) (hn : Zbr sc "isinstance" fe = true) (hg : g.c.P.prims.contains "isinstance" = true)
    (ht : g.c.P.prims.contains ty = true) (hn' : Zbr sc ty t = true) (hty : ty = "int" ∨ ty = "bool" ∨ ty = "str" ∨ ty = "list") (hx : HX g A R V s0 a (eval x env)) (hs : Zcu x = true) :
    HX g A R V s0 (.isinst a ty) (eval (.Call fe [x, t] [] pos) env) := by
  obtain ⟨k1, k2, k3⟩ := PO.prim _ ht
  have hp : Zgs ty = .type ty := by rcases hty with rfl | rfl | rfl | rfl <;> rfl
  rw [hp] at k3
  refine Zpj C PO fr hn hg (Zhi hn') (fun S q => Zmd C fr S hn' k1 k2 k3 q) hx hs fun hv S m hb q => ?_
  unfold Zcb at hb
  rw [if_pos hty] at hb
  obtain ⟨k, e1, e2⟩ := Option.map_eq_some_iff.mp hb
  exact Zxe hv S m e1 hty e2 q
theorem Zv7 {a i : X} {v sl : PySem.Expr} {pos : Pos} (C : g.c.Ok mg mb) (hns : Zhh sl = true) (ha : HX g A R V s0 a (eval v env)) (hi : HX g A R V s0 i (eval sl env)) : HX g A R V s0 (.sub a i) (eval (.Subscript v sl pos) env) :=
  fun H s Q E S m q => by
  dsimp only [Zag, Zae, Zaw, Zbm, Za9, x_ao, Zak, Za3, Zau, Zav, Za1, Zal, Zar, x_bm, Zbl, Zam, Zbg, Zch, Zap, Za7, Za4, Zbc, Zbd] at q
  refine Subscript_ (wpAny_mono (ha H s _ E S m q) (fun u s₁ z => ?_) fun _ _ z => z)
  obtain ⟨au, H₁, hu, S₁, m₁, q₁⟩ := z
  refine wpAny_mono (hi H₁ s₁ _ E S₁ m₁ q₁) (fun w s₂ z => ?_) fun _ _ z => z
  obtain ⟨aw, H₂, hw, S2, m₂, q₂⟩ := z
  exact Zxa C hu hw S2 m₂ q₂ (by intro o j; cases sl <;> first | rfl | exact Bool.noConfusion hns)
noncomputable def HO (g : Gx) (A : Around) (R : RR) (V : VV) (s0 : Shared) (env : Env) : Option X → Option PySem.Expr → Prop
  | none, none => True
  | some x, some e => HX g A R V s0 x (eval e env)
  | _, _ => False
theorem Zt9 {o : Option X} {oe : Option PySem.Expr} {H : Zaa} {s : Shared} {Q : Option AV → Zaa → Prop} {E : String → Zaa → Prop} (h : HO g A R V s0 env o oe) (S : St g.c R H s.heap) (m : Sm s0 s) (q : wpO g o V Q E H) :
    wpAny (model g.c.prog g.c.w) A (valueOrNone (evalOpt oe env)) (fun v s' => ∃ a H', ((a = none ∧ v = .none) ∨ ∃ x, a = some x ∧ VR x v) ∧ St g.c R H' s'.heap ∧ Sm s0 s' ∧ Q a H') (TE g R s0 E) s := by
  cases o with
  | none => cases oe with
    | none => exact wpAny_pure ⟨none, H, .inl ⟨rfl, rfl⟩, S, m, q⟩
    | some => exact h.elim
  | some x => cases oe with
    | none => exact h.elim
    | some e =>
      rw [Zbs] at q
      refine wpAny_mono (h H s _ E S m q) (fun v s' z => ?_) fun _ _ z => z
      obtain ⟨a, H', hv, S', m', q'⟩ := z
      exact ⟨some a, H', .inr ⟨a, rfl, hv⟩, S', m', q'⟩
theorem Zry {a : X} {lo hi st : Option X} {v : PySem.Expr} {l u t : Option PySem.Expr} {p pos : Pos} (ha : HX g A R V s0 a (eval v env)) (hl : HO g A R V s0 env lo l) (hu : HO g A R V s0 env hi u) (ht : HO g A R V s0 env st t) :
    HX g A R V s0 (.slice a lo hi st) (eval (.Subscript v (.Slice l u t p) pos) env) := fun H s Q E S m q => by
  dsimp only [Zag, Zae, Zaw, Zbm, Za9, x_ao, Zak, Za3, Zau, Zav, Za1, Zal, Zar, x_bm, Zbl, Zam, Zbg, Zch, Zap, Za7, Za4, Zbc, Zbd] at q
  refine Subscript_ (wpAny_mono (ha H s _ E S m q) (fun o s₁ z => ?_) fun _ _ z => z)
  obtain ⟨ao, H₁, ho, S₁, m₁, q₁⟩ := z
  rw [arm_eval_Slice]
  refine wpAny_bind (wpAny_mono (Zt9 hl S₁ m₁ q₁) (fun vl s₂ z => ?_) fun _ _ z => z)
  obtain ⟨al, H₂, hvl, S2, m₂, q₂⟩ := z
  refine wpAny_bind (wpAny_holding (wpAny_mono (Zt9 hu S2 m₂ q₂) (fun vu s₃ z => ?_) fun _ _ z => z))
  obtain ⟨au, H₃, hvu, S3, m3, q₃⟩ := z
  refine wpAny_bind (wpAny_holding (wpAny_mono (Zt9 ht S3 m3 q₃) (fun vt s₄ z => ?_) fun _ _ z => z))
  obtain ⟨at', H₄, hvt, S4, m4, q₄⟩ := z
  unfold newFields
  refine wpAny_newObj_type ?_ (by show (3:Nat) ≤ sizeLine + 2; exact Nat.le_of_ble_eq_true (by rfl))
  exact Ztb ho hvl hvu hvt S4 m4 q₄
theorem Zpl {a : AV} {v : Value} (h : VR a v) : handedIn v = true := by cases h <;> rfl
theorem Zgd {a b : String} (h : Str.ofString a = Str.ofString b) : a = b := by
  rw [Str.ofString_eq_toList, Str.ofString_eq_toList] at h
  have h1 := congrArg (fun x : Str => x.cps.toList) h
  dsimp only [List.toList_toArray] at h1
  have h2 := (List.map_inj_right (f := Char.toNat) fun x y e => Char.ext (UInt32.toNat_inj.mp e)).mp h1
  exact String.ext h2
theorem Zf8 {n : String} {es : List (String × AV)} {ents : List DictEntry} (h : Zb9 es ents) : OVR (Zd0 es n) ((ents.find? (·.key.isStr (Str.ofString n))).map (·.val)) ∧ (ents.any (·.refKey)) = false := by
  induction es generalizing ents with
  | nil => cases ents with
    | nil => exact ⟨.none, rfl⟩
    | cons => exact h.elim
  | cons na r ih =>
    cases ents with
    | nil => exact h.elim
    | cons e q =>
    obtain ⟨n', a⟩ := na
    obtain ⟨⟨t, hk⟩, hv, hr⟩ := h
    obtain ⟨i1, i2⟩ := ih hr
    refine ⟨?_, ?_⟩
    · unfold Zd0 at i1 ⊢
      simp only [List.find?_cons, hk, Value.isStr]
      by_cases z : n' = n
      · subst z; simp; exact .some hv
      · have : (Str.ofString n' == Str.ofString n) = false := by
          apply beq_eq_false_iff_ne.mpr
          intro w
          exact z (Zgd w)
        simp only [this, z]; exact i1
    · rw [List.any_cons, i2]
      simp [DictEntry.refKey, hk]
theorem Zkg {v : PySem.Expr} {at' : Str} (hb : Zfp v = true) : attributeBase v at' env (eval v env) = eval v env := by
  cases v with
  | Call f as ks p => exact Zeq (m := fun f => attributeBase (.Call f as ks p) at' env (eval (.Call f as ks p) env) = eval (.Call f as ks p) env) (show (Zh7 f fun _ _ _ => true) = true from hb) fun _ _ _ _ => rfl
  | _ => rfl
inductive Zsd (c : Cx) (h : Heap) (p : Addr) (cl : String) (es : List (String × AV)) : Prop
  | mk {d ents k} (I : InstAt h p (instObj (c.ca cl) d) (c.ca cl) (some (dictOf ents k))) (a : Zb9 es ents) : Zsd c h p cl es
theorem Zsq {H : Zaa} {h : Heap} {p : Addr} {cl : String} {es : List (String × AV)} (S : St g.c R H h) (e : H p = some (.inst cl es)) : Zsd g.c h p cl es := by
  obtain ⟨d, ents, k, x1, x2, x3, x4, _⟩ := S.setAttr e
  exact .mk ⟨x1, rfl, rfl, x2⟩ x3
theorem Zr8 {H : Zaa} {h : Heap} {n : String} {x : AV} {u : Value} {Q : AV → Zaa → Prop} {m : Value → Prop} (S : St g.c R H h) (ho : VR x u) (q : Zqo g.c.P n x Q H)
    (f : ∀ p cl es v, g.c.P.attrs.contains (cl, n) = true → Zsd g.c h p cl es → Zd0 es n = some v → Q v H → m (.ref p)) : m u := by
  cases ho with
  | ref p =>
    obtain ⟨oo, e⟩ : ∃ oo, H p = oo := ⟨_, rfl⟩
    dsimp only [Zqo] at q
    rw [e] at q
    cases oo with
    | none => exact q.elim
    | some oo => cases oo with
      | inst cl es =>
        obtain ⟨hat, q⟩ := q
        cases hw : Zd0 es n with
        | none => rw [hw] at q; exact q.elim
        | some w => rw [hw] at q; exact f p cl es w hat (Zsq S e) hw q
      | book B =>
        obtain ⟨rfl, hat, q⟩ := q
        obtain ⟨fr, sa, pa, d, ents, k, x1, x2, x3⟩ := S.bookAttr e
        exact f p "Book" _ _ hat (.mk ⟨x1, rfl, rfl, x2⟩ x3) rfl q
      | _ => exact q.elim
  | _ => exact q.elim
theorem Zri {H : Zaa} {h : Heap} {n : String} {x : AV} {u : Value} {K : String → Addr → Zaa → Prop} {m : Value → Prop} (S : St g.c R H h) (ho : VR x u) (q : Zql g.c.P n x K H)
    (f : ∀ p cl es, g.c.P.meths.contains (cl, n) = true → Zsd g.c h p cl es → Zd0 es n = none → K (cl ++ "." ++ n) p H → m (.ref p)) : m u := by
  cases ho with
  | ref p =>
    obtain ⟨oo, e⟩ : ∃ oo, H p = oo := ⟨_, rfl⟩
    dsimp only [Zql] at q
    rw [e] at q
    cases oo with
    | none => exact q.elim
    | some oo => cases oo with
      | inst cl es => exact f p cl es q.1 (Zsq S e) q.2.1 q.2.2
      | book B =>
        obtain ⟨hat, hno, q⟩ := q
        obtain ⟨fr, sa, pa, d, ents, k, x1, x2, x3⟩ := S.bookAttr e
        refine f p "Book" _ hat (.mk ⟨x1, rfl, rfl, x2⟩ x3) ?_ q
        simp only [bookAttrs, List.contains_cons, List.contains_nil, Bool.or_false, Bool.or_eq_false_iff, beq_eq_false_iff_ne] at hno
        obtain ⟨n1, n2, n3, n4⟩ := hno
        simp [Zd0, n1.symm, n2.symm, n3.symm, n4.symm]
      | _ => exact q.elim
  | _ => exact q.elim
theorem Zt7 {a : X} {n : String} {v : PySem.Expr} {pos : Pos} (C : g.c.Ok mg mb) (PO : PgOk g.c) (hb : Zfp v = true) (ha : HX g A R V s0 a (eval v env)) : HX g A R V s0 (.attr a n) (eval (.Attribute v (Str.ofString n) pos) env) :=
  fun H s Q E S m q => by
  replace q : wpX g a V (fun x H => Zqo g.c.P n x Q H) E H := q
  rw [arm_eval_Attribute, Zkg hb]
  refine wpAny_bind (wpAny_mono (ha H s _ E S m q) (fun o s₁ z => ?_) fun _ _ z => z)
  obtain ⟨ao, H₁, ho, S₁, m₁, q₁⟩ := z
  refine wpAny_bind (wpAny_standAt (wpAny_bind (wpAny_holding ?_)))
  refine Zr8 (m := fun o => wpAny (model g.c.prog g.c.w) A (getAttr o (Str.ofString n) true) (fun a s' => wpAny (model g.c.prog g.c.w) A (do letTemporaryGo v o a; pure a) (TQ g R s0 Q) (TE g R s0 E) s') (TE g R s0 E) s₁) S₁ ho q₁ fun p cl es w hat O hw q₁ => ?_
  obtain ⟨c1, c2, c3, _⟩ := PO.attr cl n hat
  obtain ⟨I, x3⟩ := O
  obtain ⟨f1, f2⟩ := Zf8 (n := n) x3
  rw [hw] at f1
  generalize hf : (List.find? (fun x : DictEntry => x.key.isStr (Str.ofString n)) _) = fe at f1
  cases fe with
  | none => cases f1
  | some en =>
    cases f1 with
    | some hv =>
      refine get_value (v := en.val) (C.kin.keeps S₁.stays) I (plainGet_of c1).1 (findObj_own c2 c3 rfl ?_) ?_ ?_
      · rw [lookIn_dict]; unfold getL; rw [hf]
      · exact Zpl hv
      · exact wpAny_bind (wpAny_letTemporaryGo (wpAny_pure (TQ.toks hv S₁ m₁ q₁)))
end
end Mine
end
section
open PySem PySem.W PyProof.Rows PySem.Spec PySem.SeqAt PySem.Calls
namespace Mine
section
variable {g : Gx} {A : Around} {R : RR} {V : VV} {s0 : Shared} {env : Env} {mg mb : Str → Option Value} {e₀ : Env} {l₀ : List Env}
theorem hxsL {pos : Pos} {xs : List X} {es : List PySem.Expr} (h : Ze8 g A R V s0 env xs es) : ∀ (H : Zaa) (s : Shared) (Q : List AV → Zaa → Prop) (E : String → Zaa → Prop), St g.c R H s.heap → Sm s0 s → wpXs g xs V Q E H →
    wpAny (model g.c.prog g.c.w) A (spliced (backTo pos (starEach es env))) (fun vs s' => vs.length = es.length ∧ TQs g R s0 Q vs s') (TE g R s0 E) s := by
  induction h with
  | nil => exact fun H s Q E S m q => spliced_nil ⟨rfl, [], H, .nil, S, m, q⟩
  | cons hx r ih =>
    intro H s Q E S m q
    dsimp only [Zaf, Zac] at q
    (rw [Zbe hx.2]; dsimp only [Zcd])
    refine spliced_cons (wpAny_mono (hx.1 H s _ E S m q) (fun v s₁ z => ?_) fun _ _ z => z)
    obtain ⟨av, H₁, hv, S₁, m₁, q₁⟩ := z
    refine wpAny_mono (ih H₁ s₁ _ E S₁ m₁ q₁) (fun vs s₂ z => ?_) fun _ _ z => z
    obtain ⟨hl, as, H₂, hvs, S2, m₂, q₂⟩ := z
    exact ⟨congrArg Nat.succ hl, av :: as, H₂, .cons hv hvs, S2, m₂, q₂⟩
theorem Zt2 {xs : List X} {es : List PySem.Expr} {pos : Pos} (hx : Ze8 g A R V s0 env xs es) (hl : es.length < 1000) : HX g A R V s0 (.list xs) (eval (.List es pos) env) := fun H s Q E S m q => by
  dsimp only [Zag, Zae, Zaw, Zbm, Za9, x_ao, Zak, Za3, Zau, Zav, Za1, Zal, Zar, x_bm, Zbl, Zam, Zbg, Zch, Zap, Za7, Za4, Zbc, Zbd] at q
  refine wpAny_List (wpAny_mono (hxsL hx H s _ E S m q) (fun vs s₁ z => ?_) fun _ _ z => z)
  obtain ⟨hn, as, H₁, hv, S₁, m₁, q₁⟩ := z
  refine ⟨by rw [hn]; unfold sizeLine; lia, ?_⟩
  obtain ⟨e, S'⟩ := S₁.newObj (o := .list as) (Nat.le_refl _) (fun _ _ z => Heap.get?_push_of_some _ z) (by rw [Heap.size_push]; lia) (by intro _ _ z; cases z) (fun D => ⟨vs, 0, Heap.get?_push_size _ rfl, hv⟩)
  exact ⟨_, _, .ref _, S', m₁.heap _, q₁ _ e⟩
theorem Zrx {xs : List X} {es : List PySem.Expr} {k : Nat} {pos : Pos} (hx : Ze8 g A R V s0 env xs es) (hl : es.length < 1000) : HX g A R V s0 (.tuple xs) (eval (.Tuple es k pos) env) := fun H s Q E S m q => by
  dsimp only [Zag, Zae, Zaw, Zbm, Za9, x_ao, Zak, Za3, Zau, Zav, Za1, Zal, Zar, x_bm, Zbl, Zam, Zbg, Zch, Zap, Za7, Za4, Zbc, Zbd] at q
  refine wpAny_Tuple (wpAny_mono (hxsL hx H s _ E S m q) (fun vs s₁ z => ?_) fun _ _ z => z)
  obtain ⟨hn, as, H₁, hv, S₁, m₁, q₁⟩ := z
  refine ⟨by rw [hn]; unfold sizeLine; lia, ?_⟩
  obtain ⟨e, S'⟩ := S₁.newObj (o := .tuple as) (Nat.le_refl _) (fun _ _ z => Heap.get?_push_of_some _ z) (by rw [Heap.size_push]; lia) (by intro _ _ z; cases z) (fun D => ⟨vs, 0, Heap.get?_push_size _ rfl, hv⟩)
  exact ⟨_, _, .ref _, S', m₁.heap _, q₁ _ e⟩
theorem Zr0 {pos : Pos} : HX g A R V s0 (.dict [] []) (eval (.Dict [] [] pos) env) := fun H s Q E S m q => by
  dsimp only [Zag, Zae, Zaw, Zbm, Za9, x_ao, Zak, Za3, Zau, Zav, Za1, Zal, Zar, x_bm, Zbl, Zam, Zbg, Zch, Zap, Za7, Za4, Zbc, Zbd] at q
  refine wpAny_Dict_empty ?_
  obtain ⟨e, S'⟩ := S.newObj (o := .dict 0 []) (h' := s.heap.push { cls := .type "dict", data := .dict #[] }) (Nat.le_refl _) (fun _ _ z => Heap.get?_push_of_some _ z) (by rw [Heap.size_push]; lia) (by intro _ _ z; cases z) (fun D => ⟨[], ⟨_, #[], Heap.get?_push_size _ rfl, ⟨rfl, rfl, rfl⟩, rfl, fun _ h => by simp at h, .nil, List.nodup_nil⟩, .nil⟩)
  · exact ⟨_, _, .ref _, S', m.heap _, q _ e⟩
theorem Zi3 {pos : Pos} : ∀ {xs : List X} {es : List PySem.Expr}, Ze8 g A R V s0 env xs es → (backTo pos (starEach es env)).all (fun x => !x.1) = true
  | _, _, .nil => rfl
  | _, _, .cons hx r => by
    (rw [Zbe hx.2]; dsimp only [Zcd]; rw [List.all_cons, Zi3 r]); rfl
theorem Zjs {M : Model} {E : Value → Shared → Prop} {s : Shared} {o : PySem.Expr} {name : Str} {apos pos : Pos} {args : List PySem.Expr} {Q : Value → Shared → Prop} (hb : Zfp o = true) (hall : (backTo pos (starEach args env)).all (fun x => !x.1) = true)
    (hlen : args.length < 29) (hline : (apos.endLine == pos.line) = true)
    (h : wpAny M A (eval o env) (fun ov s₁ => ∀ pl, wpAny M A (getMethod ov name pl) (fun fx s₂ => wpAny M A (callWith pos fx.1 fx.2 (backTo pos (starEach args env)) []) Q E s₂) E s₁) E s) :
    wpAny M A (eval (.Call (.Attribute o name apos) args [] pos) env) Q E s := by
  rw [arm_eval_Call, Zkg hb]
  refine wpAny_bind (wpAny_mono h (fun ov s₁ h₁ => ?_) fun _ _ e => e)
  refine wpAny_bind (wpAny_standAt ?_)
  have hform : methodCallForm (args.length + ([] : List Keyword).length) (backTo pos (starEach args env)) (backToKw pos (keywordEach [] env)) = true := by
    unfold methodCallForm
    rw [hall]
    simp only [Bool.true_and]
    show (true && decide (args.length + 0 + 0 < 30)) = true
    simp; lia
  have hpos : methodCallPos true o env apos pos = pure pos := by unfold methodCallPos; simp [hline]
  unfold methodCall
  rw [hform]
  refine wpAny_bind (wpAny_holding (wpAny_mono (h₁ _) (fun fx s₂ h₂ => ?_) fun _ _ e => e))
  exact wpAny_bind (wpAny_of_eq hpos h₂)
theorem Zt1 {a : X} {mt : String} {xs : List X} {o : PySem.Expr} {args : List PySem.Expr} {apos pos : Pos} (C : g.c.Ok mg mb) (PO : PgOk g.c) (ev : Ev g A R e₀ l₀) (hb : Zfp o = true) (hline : (apos.endLine == pos.line) = true) (hlen : args.length < 29)
    (ha : HX g A R V s0 a (eval o env)) (hx : Ze8 g A R V s0 env xs args) : HX g A R V s0 (.meth a mt xs) (eval (.Call (.Attribute o (Str.ofString mt) apos) args [] pos) env) := fun H s Q E S m q => by
  replace q : wpX g a V (fun x H => Zql g.c.P mt x (fun f p H => wpXs g xs V (fun vs H => CallOK g.c g.n g.md f (.ref p :: vs) Q E H) E H) H) E H := q
  refine Zjs hb (Zi3 hx) hlen hline (wpAny_mono (ha H s _ E S m q) (fun ov s₁ z => ?_) fun _ _ z => z)
  obtain ⟨ao, H₁, ho, S₁, m₁, q₁⟩ := z
  intro pl
  refine Zri (m := fun ov => wpAny _ A (getMethod ov (Str.ofString mt) pl) _ (TE g R s0 E) s₁) S₁ ho q₁ fun p cl es hmm O hno q₁ => ?_
  obtain ⟨c1, c2, c3, c4⟩ := PO.meth cl mt hmm
  obtain ⟨I, x3⟩ := O
  obtain ⟨f1, f2⟩ := Zf8 (n := mt) x3
  rw [hno] at f1
  generalize hf : (List.find? (fun x : DictEntry => x.key.isStr (Str.ofString mt)) _) = fe at f1
  cases fe with
  | some => cases f1
  | none =>
  refine method_fn (C.kin.keeps S₁.stays) I (plainGet_of c1).1 (plainGet_of c1).2 c2 (beq_iff_eq.mp c3) ?_ ?_
  · show (lookIn (Str.ofString mt) (dictOf _ _)).map _ = _
    rw [lookIn_dict]; unfold getL; rw [hf, f2]; rfl
  · exact Zp0 C c4 hx S₁ m₁ q₁ fun as vs H' s' k1 k2 k3 k4 => Zj9 ev (.cons (.ref p) k1) k2 k3 k4
theorem Ztf {p : Addr} {xs : List AV} {H : Zaa} {s : Shared} {Q : AV → Zaa → Prop} {E : Value → Shared → Prop} (S : St g.c R H s.heap) (m : Sm s0 s) (e : H p = some (.list xs)) (hz : xs.length ≤ sizeLine) (q : Q .none (up H p (.list []))) :
    wpAny (model g.c.prog g.c.w) A (call (.builtin "list.clear") [.ref p]) (TQ g R s0 Q) E s := by
  obtain ⟨vs, n, k1, k2, k3⟩ := Zbb S e
  refine call_meets PySem.F.slot_list_clear ⟨_, k1, rfl⟩ PySem.F.entry_list_clear (PySem.F.args_list_clear_1 _) (AutoSeq1.list_clear_list_0 p vs.toArray n (by simp only [List.size_toArray]; rw [← k2.length]; exact hz)) ⟨k1, ?_⟩
  refine ⟨.none, _, .none, S.setObj (o' := .list []) e (by intro _ _ z; cases z) (Heap.SameBut.update ..) (fun D => ⟨[], _, Heap.get?_update_self (Obj.mapSeq fun _ => (#[] : Array Value)) k1 rfl, .nil⟩), m.step _ _, q⟩
theorem Zqy {p : Addr} {es : List (Str × AV)} {ep : Nat} {H : Zaa} {s : Shared} {Q : AV → Zaa → Prop} {E : Value → Shared → Prop} (C : g.c.Ok mg mb) (S : St g.c R H s.heap) (m : Sm s0 s) (e : H p = some (.dict ep es)) (q : ∀ z, H z = none → Q (.ref z) (up H z (.vals p))) :
    wpAny (model g.c.prog g.c.w) A (call (.builtin "dict.values") [.ref p]) (TQ g R s0 Q) E s := by
  obtain ⟨kvs, hd, hr⟩ := Zcl S e
  refine call_meetsIn PySem.F.slot_dict_values hd.dictOf.typeIs PySem.F.entry_dict_values (PySem.F.args_dict_values_1 _) (meets_dict_values (strKind g.c.prog g.c.w) p (Zmb C S e)) ⟨⟨kvs, hd.dictOf⟩, ?_⟩
  obtain ⟨z, S'⟩ := S.newObj (o := .vals p) (Nat.le_refl _) (fun _ _ z => Heap.get?_push_of_some _ z) (by rw [Heap.size_push]; exact Nat.le_succ _) (by intro _ _ z; cases z) (fun D => Heap.get?_push_size _ rfl)
  exact ⟨_, _, .ref _, S', m.heap _, q _ z⟩
noncomputable def BM.id : BM → String
  | .append => "list.append" | .index => "list.index" | .count => "list.count" | .clear => "list.clear" | .values => "dict.values" | .pop => "dict.pop" | .upper => "str.upper"
theorem s_bm {o : AV} {u : Value} {bm : BM} {as : List AV} {vs : List Value} {H : Zaa} {s : Shared} {Q : AV → Zaa → Prop} {E : Value → Shared → Prop} (C : g.c.Ok mg mb) (un : A.units + 1 + 64 < cLine) (ho : VR o u) (hv : VRs as vs) (S : St g.c R H s.heap) (m : Sm s0 s) (q : wbm o bm as Q H) :
    wpAny (model g.c.prog g.c.w) A (call (.builtin bm.id) (u :: vs)) (TQ g R s0 Q) E s := by
  cases bm with
  | append => exact Zdx (m := fun vs => wpAny _ A (call (.builtin "list.append") (u :: vs)) (TQ g R s0 Q) E s) hv q fun a v h q => Zqa (m := fun u => wpAny _ A (call (.builtin "list.append") [u, v]) (TQ g R s0 Q) E s) ho q fun p xs e q => Zqz h S m e q.1 q.2
  | clear => cases hv with
    | nil => exact Zqa (m := fun u => wpAny _ A (call (.builtin "list.clear") [u]) (TQ g R s0 Q) E s) ho q fun p xs e q => Ztf S m e q.1 q.2
    | cons => exact q.elim
  | values => cases hv with
    | nil => exact Zuk (m := fun u => wpAny _ A (call (.builtin "dict.values") [u]) (TQ g R s0 Q) E s) ho q fun p ep es e q => Zqy C S m e q
    | cons => exact q.elim
  | _ => exact q.elim
theorem Zu1 {o : AV} {u : Value} {bm : BM} {pl : Sem Bool} {H : Zaa} {s : Shared} {Q : Value × List Value → Shared → Prop} {E : Value → Shared → Prop} (ho : VR o u) (S : St g.c R H s.heap) (hon : bmOn bm o H) (q : Q (.builtin bm.id, [u]) s) :
    wpAny (model g.c.prog g.c.w) A (getMethod u (Str.ofString bm.str) pl) Q E s := by
  cases ho with
  | str x t hx => cases hon; exact getMethod_builtin (typeIs_str _ _ _) PySem.F.plainAttrs_str PySem.F.slot_str_upper PySem.F.type_str_upper (fun a h => by cases h) q
  | ref p =>
    obtain ⟨oo, e⟩ : ∃ oo, H p = oo := ⟨_, rfl⟩
    dsimp only [bmOn] at hon
    rw [e] at hon
    cases oo with
    | none => exact hon.elim
    | some oo =>
    cases oo with
    | list xs =>
      obtain ⟨ws, n, k1, k2, k3⟩ := Zbb S e
      have k0 : ∀ a, Value.ref p = .ref a → ∃ o, s.heap.get? a = some o ∧ o.dict = none := fun a h => by cases h; exact ⟨_, k1, rfl⟩
      rcases hon with rfl | rfl | rfl | rfl
      · exact getMethod_builtin ⟨_, k1, rfl⟩ PySem.F.plainAttrs_list PySem.F.slot_list_append PySem.F.type_list_append k0 q
      · exact getMethod_builtin ⟨_, k1, rfl⟩ PySem.F.plainAttrs_list PySem.F.slot_list_clear PySem.F.type_list_clear k0 q
      · exact getMethod_builtin ⟨_, k1, rfl⟩ PySem.F.plainAttrs_list PySem.F.slot_list_index PySem.F.type_list_index k0 q
      · exact getMethod_builtin ⟨_, k1, rfl⟩ PySem.F.plainAttrs_list PySem.F.slot_list_count PySem.F.type_list_count k0 q
    | dict ep es =>
      obtain ⟨kvs, ⟨od, es, k1, kc, _⟩, hr⟩ := Zcl S e
      have k0 : ∀ a, Value.ref p = .ref a → ∃ o, s.heap.get? a = some o ∧ o.dict = none := fun a h => by cases h; exact ⟨_, k1, kc.2.1⟩
      rcases hon with rfl | rfl
      · exact getMethod_builtin ⟨_, k1, kc.1⟩ PySem.F.plainAttrs_dict PySem.F.slot_dict_values PySem.F.type_dict_values k0 q
      · exact getMethod_builtin ⟨_, k1, kc.1⟩ PySem.F.plainAttrs_dict PySem.F.slot_dict_pop PySem.F.type_dict_pop k0 q
    | _ => exact hon.elim
  | _ => exact hon.elim
theorem Zxs {a : X} {bm : BM} {xs : List X} {o : PySem.Expr} {args : List PySem.Expr} {apos pos : Pos} (C : g.c.Ok mg mb) (ev : Ev g A R e₀ l₀) (hb : Zfp o = true) (hline : (apos.endLine == pos.line) = true) (hlen : args.length < 29)
    (ha : HX g A R V s0 a (eval o env)) (hx : Ze8 g A R V s0 env xs args) : HX g A R V s0 (.bm a bm xs) (eval (.Call (.Attribute o (Str.ofString bm.str) apos) args [] pos) env) := fun H s Q E S m q => by
  dsimp only [Zag, Zae, Zaw, Zbm, Za9, x_ao, Zak, Za3, Zau, Zav, Za1, Zal, Zar, x_bm, Zbl, Zam, Zbg, Zch, Zap, Za7, Za4, Zbc, Zbd] at q
  refine Zjs hb (Zi3 hx) hlen hline (wpAny_mono (ha H s _ E S m q) (fun ov s₁ z => ?_) fun _ _ z => z)
  obtain ⟨ao, H₁, ho, S₁, m₁, hon, q₁⟩ := z
  intro pl
  refine Zu1 ho S₁ hon ?_
  exact Zp1 (.inl ⟨_, rfl⟩) hx S₁ m₁ q₁ fun as vs H' s' k1 k2 k3 k4 => s_bm C (by have := ev.aok.units; lia) ho k1 k2 k3 k4
theorem Zv9 {sc : Scope} {nm : List Str} {cl : String} {fe : PySem.Expr} {args : List PySem.Expr} {xs : List X} {pos : Pos} (C : g.c.Ok mg mb) (PO : PgOk g.c) (ev : Ev g A R e₀ l₀) (fr : Frm R env sc nm V) (hn : Zbr sc cl fe = true)
    (hg : g.c.P.classes.contains cl = true) (hx : Ze8 g A R V s0 env xs args) : HX g A R V s0 (.new cl xs) (eval (.Call fe args [] pos) env) := fun H s Q E S m q => by
  dsimp only [Zag, Zae, Zaw, Zbm, Za9, x_ao, Zak, Za3, Zau, Zav, Za1, Zal, Zar, x_bm, Zbl, Zam, Zbg, Zch, Zap, Za7, Za4, Zbc, Zbd] at q
  obtain ⟨h1, h2, h3, h4, h5⟩ := PO.cls cl hg
  obtain ⟨id, p, rfl⟩ := Zdz hn
  refine wpAny_Call_NameR (Zie C fr S hn h1 ?_)
  refine Zp0 C h2 hx S m q fun as vs H' s' k1 k2 k3 k4 => ?_
  obtain ⟨hh, gg, dd, t, os⟩ := s'
  have X := C.kin.keeps k2.stays
  obtain ⟨e, S'⟩ := k2.newInst (cl := cl)
  refine wpAny_call (make_core (makes_of X h3) (looks_findIn X h4) (fun self => bind_fn X self (beq_iff_eq.mp h5)) (.inl rfl) ?_)
  refine k4 _ e _ (e₀ :: l₀) R _ _ _ ⟨?_, ?_, ?_, ?_⟩ ev.stk S' (.cons (.ref _) k1) ?_ ?_
  · exact ev.aok.frames
  · have := ev.aok.depth
    have hw : (Code.builtin "type.__call__" ⟨.ref (g.c.ca cl) :: vs, []⟩).weight = 1 := rfl
    show A.depth + (Code.builtin "type.__call__" ⟨.ref (g.c.ca cl) :: vs, []⟩).weight + 110 + 0 + 8 * g.n < recursionLimit
    lia
  · have := ev.aok.units
    have hw : (Code.builtin "type.__call__" ⟨.ref (g.c.ca cl) :: vs, []⟩).cUnits = 1 := rfl
    show A.units + (Code.builtin "type.__call__" ⟨.ref (g.c.ca cl) :: vs, []⟩).cUnits + 100 + 10 * 0 + 60 * g.n < cLine
    lia
  · exact ev.aok.hand
  · rintro av v s' H' z1 z2 z3 ⟨rfl, z4⟩
    cases z1
    exact ⟨rfl, _, _, .ref _, z2, k3.trans ((Sm.mk' _ _ _).trans z3), z4⟩
  · exact fun e cl s' H' z1 z2 z3 => ⟨e, cl, H', rfl, z1, k3.trans ((Sm.mk' _ _ _).trans z2), z3⟩
end
end Mine
end
section
open PySem PySem.W PyProof.Rows PySem.Spec PySem.SeqAt PySem.Calls
namespace Mine
theorem Zs2 : typeOf (.type "ValueError") = pure (.type "type") := by kernel_rfl
theorem Zlb {M : Model} {A : Around} {E : Value → Shared → Prop} {K : Frag} {s : Shared} {v : Value} {C : Addr} {T : String} {dep : Int} {tk : Tok} {Q : Fin → Shared → Prop} (X : K.In s.heap) (ht : Looks M s.heap (typeOf v) (.ref C))
    (hty : typeOf (.type T) = pure (.type "type")) (e : subIn K (.ref C) (.type T) = some true) (h : Q (.done (.ret (.bool true))) s) :
    wpAny M A (Builtin.«isinstance.nested» ⟨[v, .type T, .int dep tk], []⟩) Q E s := by
  obtain ⟨hh, g, d, tt, os⟩ := s
  unfold Builtin.«isinstance.nested»
  refine wpAny_bind (ht.at ?_)
  rw [if_neg (by simp)]
  have L3 : Looks M hh (isInstance v (.type T)) true := ht.andThen (looks_subIn X e)
  rw [hty]
  refine wpAny_bind (wpAny_pure ?_)
  rw [if_pos (by decide)]
  k_delta "plainIsInstance"
  unfold isType
  refine wpAny_bind (wpAny_bind (wpAny_pure ?_))
  dsimp only [Bool.not_true, Bool.false_eq_true, if_false]
  refine wpAny_bind (L3.at ?_)
  simp only [if_true]
  exact wpAny_pure (wpAny_pure h)
theorem Zpe {prog : Program} {w : World} {A : Around} {E : Value → Shared → Prop} {K : Frag} {s : Shared} {v : Value} {C : Addr} {T : String} {Q : Value → Shared → Prop} (X : K.In s.heap) (ht : ∀ M, Looks M s.heap (typeOf v) (.ref C))
    (hty : typeOf (.type T) = pure (.type "type")) (e : subIn K (.ref C) (.type T) = some true) (hx : v ≠ .builtin "__main__.__loader__#opaque") (h : Q (.bool true) s) :
    wpAny (model prog w) A (call (.builtin "isinstance") [v, .type T]) Q E s :=
  call_isinstance (S := fun _ R s => (K.In s.heap ∧ ∀ M, Looks M s.heap (typeOf v) (.ref C)) ∧ R (.ok (.ret (.bool true))) s) (fun _ _ _ _ _ hs => isinstance_outer (Zlb hs.1.1 (hs.1.2 _) hty e hs.2) hx) ⟨⟨X, ht⟩, h⟩
section
variable {prog : Program} {w : World} {A : Around} {E : Value → Shared → Prop} {s : Shared} {K : Frag} {x C D : Addr}
noncomputable def Zj7 (K : Frag) (D : Addr) : Prop := findIn K (.ref D) "__class__" = some (some (.builtin "object.__class__")) ∧ specialIn K (.builtin "object.__class__") "__get__" = some (some (.builtin "getset_descriptor.__get__")) ∧ takesIn K (.builtin "object.__class__") = some true
theorem Zne {M : Model} {h : Heap} (X : K.In h) (e : Zj7 K D) : Looks M h (Builtin.ObjectAttr.find (.ref x) (.ref D) "__class__") (.bind (.builtin "getset_descriptor.__get__") (.builtin "object.__class__")) := by
  obtain ⟨h1, h2, h3⟩ := e
  have L1 := looks_findIn (M := M) X h1
  have L2 : Looks M h (Builtin.ObjectAttr.getOf (some (.builtin "object.__class__"))) (some (.builtin "getset_descriptor.__get__")) := looks_specialIn X h2
  refine L1.andThen (L2.andThen ?_)
  have L3 := looks_takesIn (M := M) X h3
  exact (show Looks M h (Builtin.ObjectAttr.dataDescriptor? (some (.builtin "object.__class__")) (some (.builtin "getset_descriptor.__get__"))) (some (.builtin "getset_descriptor.__get__", .builtin "object.__class__")) from L3.andThen .now).andThen (Looks.tag .now)
open Builtin Builtin.ObjectAttr Builtin.Getset_descriptor in
theorem Zue {tp : Value} {R : Result → Shared → Prop} (X : K.In s.heap) (I : ∀ M, Looks M s.heap (typeOf (.ref x)) (.ref D)) (hm : mroIn K D (.type "object") = some true) (h : R (.ok (.ret (.ref D))) s) :
    codeAny (model prog w) A (.call (.builtin "getset_descriptor.__get__") ⟨[.builtin "object.__class__", .ref x, tp], []⟩) R s := by
  obtain ⟨hh, g, dr, t, os⟩ := s
  have L0 := I (model prog w)
  have L1 := looks_mroIn (M := model prog w) X hm
  refine codeAny_call_builtin KF.slot_gs.plain KF.entry_gs (KF.slot_gs.check _ _ _ _ _ _ _ _ KF.type_class (KF.args_gs _ _ _) ?_)
  unfold Builtin.«getset_descriptor.__get__» descrGet
  rw [dga_obj]
  refine wpAny_bind (wpAny_pure ?_)
  unfold descrGetter descrCheckInstance descrNameAndClass isInstance
  simp only [KF.owner_class]
  repeat lk
  refine ⟨Code.quiet_builtin _ (by decide +kernel), codeAny_builtin KF.entry_class ?_⟩
  unfold Builtin.«object.__class__» shownTypeOf
  repeat lk
  exact h
theorem Zj2 {tk : Tok} {Q : Fin → Shared → Prop} (X : K.In s.heap) (I : ∀ M, Looks M s.heap (typeOf (.ref x)) (.ref D)) (hf : Zj7 K D) (hm : mroIn K D (.type "object") = some true) (h : Q (.done (.ret (.ref D))) s) :
    wpAny (model prog w) A (Builtin.«object.__getattribute__» ⟨[.ref x, .str "__class__" tk], []⟩) Q E s := by
  obtain ⟨hh, g, d, t, os⟩ := s
  have L0 := I (model prog w)
  have L1 := Zne (x := x) (M := model prog w) X hf
  unfold Builtin.«object.__getattribute__»
  refine wpAny_bind (wpAny_pure ?_)
  refine wpAny_bind (wpAny_pure ?_)
  refine wpAny_bind (L0.at (wpAny_bind (L1.at ?_)))
  show wpAny _ _ (holding [Value.builtin "object.__class__"] (call (.builtin "getset_descriptor.__get__") [.builtin "object.__class__", .ref x, .ref D]) >>= ret) _ _ _
  exact wpAny_bind (wpAny_holding (wpAny_call (Zue X I hm (wpAny_pure h))))
theorem Zwk {tk : Tok} {R : Result → Shared → Prop} (X : K.In s.heap) (I : ∀ M, Looks M s.heap (typeOf (.ref x)) (.ref D)) (hb : subIn K (.ref D) (.type "BaseException") = some true) (hf : Zj7 K D) (hm : mroIn K D (.type "object") = some true) (h : R (.ok (.ret (.ref D))) s) :
    codeAny (model prog w) A (.call (.builtin "BaseException.__getattribute__") ⟨[.ref x, .str "__class__" tk], []⟩) R s := by
  have hk : builtinKind "BaseException.__getattribute__" = some .slot := by decide +kernel
  have hsplit : splitId "BaseException.__getattribute__" = some ("BaseException", "__getattribute__") := by decide +kernel
  have ha := F.args_bexc_ga (.ref x) (.str "__class__" tk)
  obtain ⟨hh, g, d, t, os⟩ := s
  have L0 := I (model prog w)
  have L3 : Looks (model prog w) hh (isInstance (.ref x) (.type "BaseException")) true := L0.andThen (looks_subIn X hb)
  refine codeAny_call_builtin (by decide +kernel) F.entry_bexc_ga ?_
  simp only [checkBuiltinCall, hk, hsplit]
  refine wpAny_bind (L3.at ?_)
  rw [if_neg (by decide)]
  revert ha
  unfold argsOk
  generalize Manifest.signature? "BaseException.__getattribute__" = sg
  cases sg with
  | none => exact fun _ => wpAny_pure (Zj2 X I hf hm h)
  | some sig =>
    intro ha
    show wpAny _ _ (Bind.checkArgs "BaseException.__getattribute__" sig ⟨[.ref x, .str "__class__" tk], []⟩) _ _ _
    rw [show Bind.checkArgs "BaseException.__getattribute__" sig ⟨[.ref x, .str "__class__" tk], []⟩ = pure () from ha]
    exact wpAny_pure (Zj2 X I hf hm h)
theorem Zpu {Q : Option Value → Shared → Prop} (X : K.In s.heap) (I : ∀ M, Looks M s.heap (typeOf (.ref x)) (.ref D)) (hga : findIn K (.ref D) "__getattribute__" = some (some (.builtin "BaseException.__getattribute__"))) (hgt : findIn K (.ref D) "__getattr__" = some none) (hb : subIn K (.ref D) (.type "BaseException") = some true) (hf : Zj7 K D) (hm : mroIn K D (.type "object") = some true) (h : Q (some (.ref D)) { s with toks := s.toks + 1 }) :
    wpAny (model prog w) A (getAttr? (.ref x) "__class__") Q E s := by
  obtain ⟨hh, g, d, t, os⟩ := s
  have L0 := I (model prog w)
  have L1 := looks_findIn (M := model prog w) X hga
  have L2 := looks_findIn (M := model prog w) X hgt
  unfold getAttr? getAttrBy? getAttrBy
  refine wpAny_bind (wpAny_mkText (wpAny_bind (wpAny_attempt (wpAny_holding (wpAny_bind (L0.at (wpAny_bind (L1.at ?_))))))))
  have hx2 : (Value.builtin "BaseException.__getattribute__" == Value.builtin "object.__getattribute__") = false := by decide +kernel
  dsimp only
  rw [hx2, Bool.and_false, if_neg (by decide)]
  unfold getAttrByItsOwn hookBefore
  refine wpAny_bind ?_
  rw [if_pos (by rfl)]
  refine L2.at ?_
  refine wpAny_bind (wpAny_attempt (wpAny_holding ?_))
  unfold callGetattribute boundAndCalled
  rw [if_neg (by decide)]
  refine wpAny_bind ?_
  unfold bindSpecial
  rw [show typeOf (.builtin "BaseException.__getattribute__") = pure (.type "wrapper_descriptor") by kernel_rfl]
  refine wpAny_bind (wpAny_pure ?_)
  rw [if_pos (by decide +kernel)]
  refine wpAny_pure ?_
  show wpAny _ _ (call (.builtin "BaseException.__getattribute__") [.ref x, .str "__class__" t]) _ _ _
  refine wpAny_call (Zwk (s := ⟨hh, g, d, t + 1, os⟩) X I hb hf hm ?_)
  exact handed_on rfl (wpAny_pure h)
set_option tactic.hygienic true in
theorem Zpt {C : Addr} {Q : Value → Shared → Prop} (X : K.In s.heap) (I : ∀ M, Looks M s.heap (typeOf (.ref x)) (.ref D)) (hga : findIn K (.ref D) "__getattribute__" = some (some (.builtin "BaseException.__getattribute__"))) (hgt : findIn K (.ref D) "__getattr__" = some none) (hb : subIn K (.ref D) (.type "BaseException") = some true) (hf : Zj7 K D) (hm : mroIn K D (.type "object") = some true)
    (hcD : (clsIn K D).isSome = true) (hcC : (clsIn K C).isSome = true) (hty : typeIn K (.ref C) = some (.type "type")) (hne : D ≠ C) (hsub : subIn K (.ref D) (.ref C) = some false) (h : Q (.bool false) { s with toks := s.toks + 1 }) :
    wpAny (model prog w) A (call (.builtin "isinstance") [.ref x, .ref C]) Q E s := by
  have isT : ∀ {M : Model} {h' : Heap} {c : Addr}, K.In h' → (clsIn K c).isSome = true → Looks M h' (isType (.ref c)) true := fun {M h' c} X' e => by
    unfold clsIn at e
    split at e
    · rename_i c' d' cd' sl' ho
      intro A' Q' E' s' k q
      unfold isType loadHead
      exact wpAny_bind (wpAny_loadPart (k _ _ (X' _ _ ho)) (wpAny_pure q))
    · cases e
  refine call_isinstance (S := fun _ R s => (K.In s.heap ∧ ∀ M, Looks M s.heap (typeOf (.ref x)) (.ref D)) ∧ R (.ok (.ret (.bool false))) { s with toks := s.toks + 1 }) (fun p w' A' R s' hs => isinstance_outer ?_ (by intro q; cases q)) ⟨⟨X, I⟩, h⟩
  obtain ⟨⟨X', I'⟩, hR⟩ := hs
  obtain ⟨h0, g, d, tt, os⟩ := s'
  have L0 := I' (model p w')
  have LS := looks_subIn (M := model p w') X' hsub
  have LI : Looks (model p w') h0 (isInstance (.ref x) (.ref C)) false := L0.andThen LS
  unfold Builtin.«isinstance.nested»
  refine wpAny_bind (L0.at ?_)
  rw [if_neg (fun q => hne (Value.ref.inj (beq_iff_eq.mp q)))]
  refine wpAny_bind ((looks_typeIn X' hty).at ?_)
  rw [if_pos (by decide)]
  k_delta "plainIsInstance"
  refine wpAny_bind (wpAny_bind ((isT X' hcC).at ?_))
  simp only [Bool.not_true, Bool.false_eq_true, if_false]
  refine wpAny_bind (LI.at ?_)
  simp only [Bool.false_eq_true, if_false]
  refine wpAny_bind (Zpu X' I' hga hgt hb hf hm ?_)
  refine wpAny_bind ((isT X' hcD).at ?_)
  simp only [Bool.not_true, Bool.false_eq_true, if_false]
  refine wpAny_bind (wpAny_rule ?_)
  refine LS.at ?_
  first
    | exact wpAny_pure hR
    | exact wpAny_pure (wpAny_pure hR)
    | exact wpAny_bind (wpAny_pure (wpAny_pure hR))
end
section
variable {g : Gx} {A : Around} {R : RR} {V : VV} {s0 : Shared} {env : Env} {mg mb : Str → Option Value} {e₀ : Env} {l₀ : List Env}
theorem Zi1 {M : Model} {H : Zaa} {h : Heap} {p : Addr} {cl : String} (S : St g.c R H h) (e : H p = some (.exc cl)) : Looks M h (typeOf (.ref p)) (.ref (g.c.ca cl)) := by
  obtain ⟨⟨D, o, o1, o2, vs, o3⟩, _⟩ := S.orep e
  rw [← o2]
  exact (Looks.ld o1).andThen .now
theorem Zpd {P : Pg} {H : Zaa} {v : AV} {ty : String} {b : Bool} (hty : ¬(ty = "int" ∨ ty = "bool" ∨ ty = "str" ∨ ty = "list")) (h : Zcb P H v ty = some b) :
    ∃ p cl, v = .ref p ∧ H p = some (.exc cl) ∧ Zdj P cl ty = b ∧ (b = false → (P.excs.lookup ty).isSome = true ∧ (P.excs.lookup cl).isSome = true) := by
  unfold Zcb at h
  rw [if_neg hty] at h
  cases v with
  | ref p =>
    obtain ⟨o, e⟩ : ∃ o, H p = o := ⟨_, rfl⟩
    dsimp only at h
    rw [e] at h
    cases o with
    | none => cases h
    | some o => cases o with
      | exc cl =>
        refine ⟨p, cl, rfl, e, ?_⟩
        replace h : (if Zdj P cl ty = true then some true else if ((P.excs.lookup ty).isSome && (P.excs.lookup cl).isSome) = true then some false else none) = some b := h
        cases hc : Zdj P cl ty with
        | true => rw [hc, if_pos rfl] at h; cases h; exact ⟨rfl, fun z => Bool.noConfusion z⟩
        | false =>
          rw [hc, if_neg Bool.false_ne_true] at h
          cases hk : ((P.excs.lookup ty).isSome && (P.excs.lookup cl).isSome) with
          | true => rw [hk, if_pos rfl] at h; cases h; exact ⟨rfl, fun _ => and2 hk⟩
          | false => rw [hk, if_neg Bool.false_ne_true] at h; cases h
      | _ => cases h
  | _ => cases h
theorem Zpv {P : Pg} {cl ty : String} (h : Zdj P cl ty = true) : (P.excs.lookup cl).isSome = true := by
  unfold Zdj at h
  cases z : P.excs.lookup cl with
  | none => rw [z] at h; cases h
  | some => rfl
theorem Zpi {sc : Scope} {nm : List Str} {ty : String} {fe t x : PySem.Expr} {a : X} {pos : Pos} (C : g.c.Ok mg mb) (PO : PgOk g.c) (fr : Frm R env sc nm V) (hn : Zbr sc "isinstance" fe = true) (hg : g.c.P.prims.contains "isinstance" = true)
    (ht : (g.c.P.prims.contains ty || (g.c.P.excs.lookup ty).isSome) = true) (hn' : Zbr sc ty t = true) (hx : HX g A R V s0 a (eval x env)) (hs : Zcu x = true) :
    HX g A R V s0 (.isinst a ty) (eval (.Call fe [x, t] [] pos) env) := by
  cases hx' : (g.c.P.excs.lookup ty).isSome with
  | false =>
    rw [hx', Bool.or_false] at ht
    by_cases hty : ty = "int" ∨ ty = "bool" ∨ ty = "str" ∨ ty = "list"
    · exact Zwc C PO fr hn hg ht hn' hty hx hs
    obtain ⟨k1, k2, k3⟩ := PO.prim _ ht
    refine Zpj C PO fr hn hg (Zhi hn') (fun S q => Zmd C fr S hn' k1 k2 k3 q) hx hs fun {av v H s Q E b} hv S m hb q => ?_
    obtain ⟨p, cl, rfl, e, hc, hk⟩ := Zpd hty hb
    cases hv
    cases b with
    | false => rw [(hk rfl).1] at hx'; cases hx'
    | true =>
      obtain ⟨e1, e3⟩ := PO.exc cl ty hc ht
      subst e1
      exact Zpe (C.kin.keeps S.stays) (fun M => Zi1 S e) Zs2 e3 (by simp) (TQ.pure (.bool _) S m q)
  | true =>
    obtain ⟨k1, k2, k3, k4, k5, k6, k7, k8⟩ := PO.excR _ hx'
    have hty : ¬(ty = "int" ∨ ty = "bool" ∨ ty = "str" ∨ ty = "list") := by
      rintro (rfl | rfl | rfl | rfl) <;> exact absurd k8 (by decide)
    refine Zpj C PO fr hn hg (Zhi hn') (fun S q => Zie C fr S hn' k1 q) hx hs fun {av v H s Q E b} hv S m hb q => ?_
    obtain ⟨p, cl, rfl, e, hc, hk⟩ := Zpd hty hb
    cases hv
    cases b with
    | true =>
      have hsub := PO.excC cl ty (Zpv hc) hx'
      rw [hc] at hsub
      refine isi_call (C.kin.keeps S.stays) (fun M => Zi1 S e) ?_ (by simp) (TQ.pure (.bool _) S m q)
      unfold isIn
      rw [k5, k6, k7, hsub]
      simp
    | false =>
      have hkn := (hk rfl).2
      have hsub := PO.excC cl ty hkn hx'
      rw [hc] at hsub
      obtain ⟨g1, g2, g3, g4, g5, g6, g7⟩ := PO.excG cl hkn
      obtain ⟨_, _, _, c4, c5, _⟩ := PO.excR cl hkn
      have hne : g.c.ca cl ≠ g.c.ca ty := fun z => by
        have := PO.excC cl cl hkn hkn
        rw [← z, this, g7] at hsub; cases hsub
      exact Zpt (C.kin.keeps S.stays) (fun M => Zi1 S e) g1 g2 c4 ⟨g3, g4, g5⟩ g6 c5 k5 k6 hne hsub (TQ.toks (.bool _) S m q)
end
end Mine
end
section
open PySem PySem.W PyProof.Rows PySem.Spec PySem.SeqAt PySem.Calls
namespace Mine
section
variable {c : Cx} {R : RR} {H : Zaa} {h h' : Heap}
theorem St1.noted (S : St1 c R H h) {ls : List Addr}
    (hls : ∀ a ∈ ls, (∃ m, R a = some (.ns m)) ∨ (R a = none ∧ H a = none ∧ c.base.get? a = none ∧ ∃ o vs, h.get? a = some o ∧ o.data = .fields vs))
    (k : ∀ b o, h.get? b = some o → b ∉ ls → h'.get? b = some o) (sl : ∀ b o, h.get? b = some o → (∀ vs, o.data ≠ .fields vs) → ∃ t, h'.get? b = some { o with slots := t })
    (hsz : c.base.objs.size ≤ h'.objs.size) : St1 c R H h' := by
  obtain ⟨s1, s2, s3, D, s4⟩ := S
  have hb : ∀ b o, c.base.get? b = some o → b ∉ ls := fun b o e hm => by
    rcases hls b hm with ⟨m, q⟩ | ⟨_, _, q, _⟩
    · have := leN (s3 b _ q).1; have := lts e; omega
    · rw [q] at e; cases e
  have hH : ∀ a o, H a = some o → a ∉ ls := fun a o e hm => by
    rcases hls a hm with ⟨m, q⟩ | ⟨_, q, _⟩
    · have := (s4.above a o e).2; rw [q] at this; cases this
    · rw [q] at e; cases e
  refine ⟨fun b o e => k b o (s1 b o e) (hb b o e), hsz, fun b r e => ⟨(s3 b r e).1, ?_⟩, D, ⟨fun a o e => ?_, s4.above, s4.dict, s4.inj⟩⟩
  · by_cases q : b ∈ ls
    · rcases hls b q with ⟨m, z⟩ | ⟨z, _⟩
      · rw [e] at z; cases z
        obtain ⟨o, es, ep, ho, hd, rr⟩ := (s3 b _ e).2
        obtain ⟨t, ht⟩ := sl b o ho (fun vs w => by rw [hd] at w; cases w)
        exact ⟨_, es, ep, ht, hd, rr⟩
      · rw [e] at z; cases z
    · exact (s3 b r e).2.agree fun ob z => k b ob z q
  · refine (s4.rep a o e).agree (fun ob z => k a ob z (hH a o e)) fun cl es eo => ⟨rfl, fun ob z => ?_⟩
    subst eo
    refine k _ ob z fun hm => ?_
    obtain ⟨_, y2, y3⟩ := s4.dict a cl es e
    rcases hls _ hm with ⟨m, q⟩ | ⟨_, _, _, o', vs, q1, q2⟩
    · rw [q] at y2; cases y2
    · obtain ⟨_, ents, n, w, _⟩ := s4.rep a _ e
      rw [w] at q1; cases q1; cases q2
theorem St1.frames (S : St1 c R H h) {l : List Env} (hs : Stk R l) {B : Heap} (hB : ∀ e ∈ l, B.get? e.locals = none) : h.FunFrames B l := by
  induction l with
  | nil => trivial
  | cons e l ih =>
    have F := hs e (.head _)
    obtain ⟨m, hm⟩ := F.ns
    obtain ⟨o, es, ep, ho, hd, _⟩ := (S.res _ _ hm).2
    exact ⟨by rw [F.kind]; simp, ⟨e.locals, o, F.frame, hB e (.head _), ho, fun vs w => by rw [hd] at w; cases w⟩, ih (fun x hx => hs x (.tail _ hx)) fun x hx => hB x (.tail _ hx)⟩
noncomputable def FlOk (env : Env) (fl : Value) : Prop := fl = .ellipsis ∨ fl = .none ∨ fl = rawInt env.locals
theorem Zj0 {e : Addr} {cl : String} {env : Env} {outer : List Env} {ls : List Addr} {a0 fl : Value} (X : St1 c R H h) (re : R e = none) (he : H e = none) (be : c.base.get? e = none) (hs : Stk R (env :: outer))
    (hls : ∀ a ∈ ls, (∃ m, R a = some (.ns m)) ∨ (R a = none ∧ H a = none ∧ c.base.get? a = none ∧ ∃ o vs, h.get? a = some o ∧ o.data = .fields vs))
    (N : Heap.NotedW (hideAll h ls) (env :: outer) e (.ref (c.ca cl)) a0 fl h h') (hfl : fl ≠ .ellipsis) (kn : (c.P.excs.lookup cl).isSome = true) : ExcSt1 c R H e cl fl h' := by
  obtain ⟨n1, n2, n3, n4⟩ := N
  have F := hs env (.head _)
  obtain ⟨m, hm⟩ := F.ns
  obtain ⟨o, es, ep, ho, hd, _⟩ := (X.res _ _ hm).2
  obtain ⟨t, ht⟩ := n4 _ o ho (fun vs w => by rw [hd] at w; cases w)
  have hsz : c.base.objs.size ≤ h'.objs.size := by
    have h1 := leN (X.res _ _ hm).1; have h2 := lts ht; omega
  have S' := X.noted hls (fun b o e q => n1 b o (hideAll_get _ e q)) n4 hsz
  obtain ⟨oe, vs, T, oT, ts, h1, ⟨h2, h3⟩, h4, h5, h6, h7, h8, h9, h10⟩ := n3
  have out : ∀ b o, h.get? b = some o → b ∉ ls → b ≠ T := fun b o e q z => by
    have := hideAll_get ls e q
    rw [z, h6] at this; cases this
  refine ⟨S', re, he, be, .traced h1 h2 h4 h3 h5 h7 ?_ ?_ ?_ h8 h9 h10 hfl, kn⟩
  · cases q : R T with
    | none => rfl
    | some r =>
      exfalso
      obtain ⟨ob, hob⟩ := (X.res _ _ q).2.there
      by_cases z : T ∈ ls
      · rcases hls T z with ⟨m', q'⟩ | ⟨q', _⟩
        · obtain ⟨o', es', ep', ho', hd', _⟩ := (S'.res _ _ q').2
          rw [h8] at ho'; cases ho'; rw [h9] at hd'; cases hd'
        · rw [q] at q'; cases q'
      · exact out T ob hob z rfl
  · cases q : H T with
    | none => rfl
    | some r =>
      exfalso
      obtain ⟨D, s4⟩ := X.rep
      obtain ⟨ob, hob⟩ := (s4.rep _ _ q).there
      by_cases z : T ∈ ls
      · rcases hls T z with ⟨m', q'⟩ | ⟨_, q', _⟩
        · have := (s4.above _ _ q).2; rw [q'] at this; cases this
        · rw [q] at q'; cases q'
      · exact out T ob hob z rfl
  · cases q : c.base.get? T with
    | none => rfl
    | some ob =>
      exfalso
      by_cases z : T ∈ ls
      · rcases hls T z with ⟨m', q'⟩ | ⟨_, _, q', _⟩
        · have := leN (X.res _ _ q').1; have := lts q; omega
        · rw [q] at q'; cases q'
      · exact out T ob (X.stays _ _ q) z rfl
set_option tactic.hygienic true in
theorem Zj1 {M : Model} {A : Around} {E : Value → Shared → Prop} {s : Shared} {e : Addr} {cl : String} {fl : Value} {env : Env} {outer : List Env} {Q : Unit → Shared → Prop} (hfr : A.frames = some (env :: outer)) (hs : Stk R (env :: outer))
    (X : ExcSt1 c R H e cl fl s.heap) (hfl : FlOk env fl) (q : ∀ h', ExcSt1 c R H e cl (rawInt env.locals) h' → Q () { s with heap := h' }) : wpAny M A (noteFrame (.ref e) env) Q E s := by
  obtain ⟨st, re, he, be, ob, kn⟩ := X
  have F := hs env (.head _)
  cases ob with
  | fresh h1 =>
    have hls : ∀ a ∈ e :: (env :: outer).map (·.locals), (∃ m, R a = some (.ns m)) ∨ (R a = none ∧ H a = none ∧ c.base.get? a = none ∧ ∃ o vs, s.heap.get? a = some o ∧ o.data = .fields vs) := by
      intro a ha
      rcases List.mem_cons.mp ha with rfl | ha
      · exact .inr ⟨re, he, be, _, _, h1, rfl⟩
      · obtain ⟨x, hx, rfl⟩ := List.mem_map.mp ha
        exact .inl (hs x hx).ns
    unfold noteFrame
    simp only [F.frame]
    refine wpAny_bind (wpAny_field h1 rfl (x := .none) rfl ?_)
    rw [if_neg (by decide)]
    refine wpAny_entryW (base := hideAll s.heap (e :: (env :: outer).map (·.locals))) (a0 := _) hfr (st.frames hs fun x hx => hideAll_none _ (List.mem_cons_of_mem _ (List.mem_map_of_mem hx))) F.frame h1 (fun b o z => of_hideAll _ z) (hideAll_none _ (List.mem_cons_self ..)) rfl (by simp) rfl fun h' N => q h' ?_
    exact Zj0 st re he be hs hls N (by simp [rawInt]) kn
  | traced h1 h2 h3 h4 h5 h6 h7 h8 h9 h10 h11 h12 h13 =>
    rename_i oe vs T oT ts a0
    rcases hfl with rfl | rfl | rfl
    · exact absurd rfl h13
    · have hls : ∀ a ∈ e :: T :: (env :: outer).map (·.locals), (∃ m, R a = some (.ns m)) ∨ (R a = none ∧ H a = none ∧ c.base.get? a = none ∧ ∃ o vs, s.heap.get? a = some o ∧ o.data = .fields vs) := by
        intro a ha
        rcases List.mem_cons.mp ha with rfl | ha
        · exact .inr ⟨re, he, be, _, _, h1, h3⟩
        · rcases List.mem_cons.mp ha with rfl | ha
          · exact .inr ⟨h7, h8, h9, _, _, h10, h11⟩
          · obtain ⟨x, hx, rfl⟩ := List.mem_map.mp ha
            exact .inl (hs x hx).ns
      refine wpAny_noteFrame_onW (base := hideAll s.heap (e :: T :: (env :: outer).map (·.locals))) (cls := .ref (c.ca cl)) (a0 := a0) hfr (st.frames hs fun x hx => hideAll_none _ (List.mem_cons_of_mem _ (List.mem_cons_of_mem _ (List.mem_map_of_mem hx)))) F.frame
        ⟨oe, vs, T, oT, ts, h1, ⟨h2, h4⟩, h3, h5, hideAll_none _ (List.mem_cons_of_mem _ (List.mem_cons_self ..)), h6, h10, h11, h12⟩ (fun b o z => of_hideAll _ z) (hideAll_none _ (List.mem_cons_self ..)) fun h' N => q h' ?_
      exact Zj0 st re he be hs hls N (by simp [rawInt]) kn
    · refine wpAny_noteFrame_againW (base := hideAll s.heap [T]) (cls := .ref (c.ca cl)) (a0 := a0) F.frame ⟨oe, vs, T, oT, ts, h1, ⟨h2, h4⟩, h3, h5, hideAll_none _ (List.mem_cons_self ..), h6, h10, h11, h12⟩ ?_
      have := q s.heap ⟨st, re, he, be, .traced h1 h2 h3 h4 h5 h6 h7 h8 h9 h10 h11 h12 h13, kn⟩
      exact this
set_option tactic.hygienic true in
theorem Zho {M : Model} {A : Around} {E : Value → Shared → Prop} {s : Shared} {e : Addr} {cl : String} {fl : Value} {f : Option Addr} {Q : Unit → Shared → Prop}
    (X : ExcSt1 c R H e cl fl s.heap) (hfl : fl ≠ .ellipsis) (q : ∀ h', ExcSt1 c R H e cl (f.elim .none fun f => rawInt f) h' → Q () { s with heap := h' }) : wpAny M A (setFlight (.ref e) f) Q E s := by
  obtain ⟨st, re, he, be, ob, kn⟩ := X
  cases ob with
  | fresh h1 => exact absurd rfl hfl
  | traced h1 h2 h3 h4 h5 h6 h7 h8 h9 h10 h11 h12 h13 =>
    rename_i oe vs T oT ts a0
    have hsz3 : 3 < ts.size := (Array.getElem?_eq_some_iff.mp h12).1
    have other : ∀ b, b ≠ T → (s.heap.update T (Obj.mapFields (·.setIfInBounds 3 (f.elim Value.none fun f => rawInt f)))).get? b = s.heap.get? b :=
      fun b hb => Heap.get?_update_other _ _ (Ne.symm hb)
    unfold setFlight
    refine wpAny_bind (wpAny_field h1 h3 h5 ?_)
    rw [if_pos (show (Value.ref T != Value.none) = true from by simp)]
    refine wpAny_setField h10 h11 hsz3 (q _ ⟨?_, re, he, be, ?_, kn⟩)
    · refine st.noted (ls := [T]) (fun a ha => .inr ?_) (fun b o hb hn => (other b (by simpa using hn)).trans hb) (fun b o hb hn => ⟨o.slots, (other b (fun z => ?_)).trans hb⟩) ?_
      · simp only [List.mem_singleton] at ha
        subst ha
        exact ⟨h7, h8, h9, _, _, h10, h11⟩
      · rw [z, h10] at hb; cases hb; exact hn _ h11
      · rw [Heap.size_update]; exact st.size
    · exact .traced ((other e (Ne.symm h6)).trans h1) h2 h3 h4 h5 h6 h7 h8 h9 (Heap.get?_update_self _ h10 (Obj.isFreed_of_fields (Obj.data_mapFields h11 _))) (Obj.data_mapFields h11 _) (by simp [hsz3]) (by cases f <;> simp [rawInt])
theorem Znj {M : Model} {A : Around} {E : Value → Shared → Prop} {s : Shared} {e : Addr} {cl : String} {fl : Value} {env : Env} {outer : List Env} {Q : Unit → Shared → Prop} (hfr : A.frames = some (env :: outer)) (hs : Stk R (env :: outer))
    (X : ExcSt1 c R H e cl fl s.heap) (hfl : FlOk env fl) (q : ∀ h', ExcSt1 c R H e cl .none h' → Q () { s with heap := h' }) : wpAny M A (leaving env (.ref e)) Q E s := by
  unfold leaving
  exact wpAny_bind (Zj1 hfr hs X hfl fun h₁ X1 => Zho (s := { s with heap := h₁ }) X1 (by simp [rawInt]) fun h₂ X2 => q h₂ X2)
end
section
variable {c : Cx} {R : RR} {H : Zaa} {h h' : Heap}
theorem Zml {M : Model} {A : Around} {E : Value → Shared → Prop} {s : Shared} {e : Addr} {cl : String} {fl : Value} {env : Env} {outer : List Env} {Q : Unit → Shared → Prop} (hfr : A.frames = some (env :: outer)) (hs : Stk R (env :: outer))
    (X : ExcSt c R H e cl fl s.heap) (hfl : FlOk env fl) (q : ∀ h', ExcSt c R H e cl (rawInt env.locals) h' → Q () { s with heap := h' }) : wpAny M A (noteFrame (.ref e) env) Q E s :=
  let ⟨H₁, X, r⟩ := X; Zj1 hfr hs X hfl fun h' X' => q h' ⟨H₁, X', r⟩
theorem Zes {M : Model} {A : Around} {E : Value → Shared → Prop} {s : Shared} {e : Addr} {cl : String} {fl : Value} {f : Option Addr} {Q : Unit → Shared → Prop}
    (X : ExcSt c R H e cl fl s.heap) (hfl : fl ≠ .ellipsis) (q : ∀ h', ExcSt c R H e cl (f.elim .none fun f => rawInt f) h' → Q () { s with heap := h' }) : wpAny M A (setFlight (.ref e) f) Q E s :=
  let ⟨H₁, X, r⟩ := X; Zho X hfl fun h' X' => q h' ⟨H₁, X', r⟩
theorem Zps {M : Model} {A : Around} {E : Value → Shared → Prop} {s : Shared} {e : Addr} {cl : String} {fl : Value} {env : Env} {outer : List Env} {Q : Unit → Shared → Prop} (hfr : A.frames = some (env :: outer)) (hs : Stk R (env :: outer))
    (X : ExcSt c R H e cl fl s.heap) (hfl : FlOk env fl) (q : ∀ h', ExcSt c R H e cl .none h' → Q () { s with heap := h' }) : wpAny M A (leaving env (.ref e)) Q E s :=
  let ⟨H₁, X, r⟩ := X; Znj hfr hs X hfl fun h' X' => q h' ⟨H₁, X', r⟩
theorem ExcSt.st {e : Addr} {cl : String} {fl : Value} (X : ExcSt c R H e cl fl h) : St c R H h := let ⟨H₁, X, r⟩ := X; ⟨H₁, X.st, r⟩
theorem ExcSt.he {e : Addr} {cl : String} {fl : Value} (X : ExcSt c R H e cl fl h) : H e = none := let ⟨_, X, r⟩ := X; r.none X.he
theorem ExcSt.kn {e : Addr} {cl : String} {fl : Value} (X : ExcSt c R H e cl fl h) : (c.P.excs.lookup cl).isSome = true := let ⟨_, X, _⟩ := X; X.kn
end
end Mine
end
section
open PySem PySem.W PyProof.Rows PySem.Spec PySem.SeqAt PySem.Calls
namespace Mine
noncomputable def Zca (R : RR) (a : Addr) : RR := fun b => if b = a then none else R b
theorem Zem {R : RR} {a : Addr} : ∀ b r, Zca R a b = some r → R b = some r := fun b r e => by
  unfold Zca at e; split at e
  · cases e
  · exact e
theorem Za0 {R : RR} {a b : Addr} (h : b ≠ a) : Zca R a b = R b := by simp [Zca, h]
theorem Zb2 {R : RR} {a : Addr} : Zca R a a = none := by simp [Zca]
noncomputable def ItObj (H : Zaa) (v : AV) (k : Nat) (o : Obj) : Prop :=
  match v with
  | .ref a => (match H a with
    | some (.list _) => o.cls = .type "list_iterator" ∧ o.data = .fields #[.ref a, .int k 0]
    | some (.tuple _) => o.cls = .type "tuple_iterator" ∧ o.data = .fields #[.ref a, .int k 0]
    | some (.range lo hi) => o = { cls := .type "range_iterator", dict := none, data := .fields #[rawInt (lo + k), rawInt (((hi - lo).toNat : Int) - k), rawInt 1], slots := #[] }
    | _ => False)
  | .str s => ∃ t, (o.cls = .type "str_ascii_iterator" ∨ o.cls = .type "str_iterator") ∧ o.data = .fields #[.str s t, .int k 0]
  | _ => False
theorem ItObj.same {H H' : Zaa} {v : AV} {k : Nat} {o : Obj} (h : ItObj H v k o) (e : Zc4 H H' v) : ItObj H' v k o := by
  cases v with
  | ref a => dsimp only [Zc4] at e; simp only [ItObj] at h ⊢; rw [e]; exact h
  | str s => exact h
  | _ => exact h
theorem Zn6 {a b : Int} : Builtin.Range.rangeSize a b 1 = ((b - a).toNat : Int) := by
  unfold Builtin.Range.rangeSize
  simp only [Int.ediv_one, show (1 : Int) > 0 from by decide, if_true]
  split <;> omega
theorem Zq0 {a b : Int} (h : RgOk a b) : Builtin.Range.small a b 1 = true := by
  unfold Builtin.Range.small Builtin.Range.rangeFitsLong
  rw [Zn6]
  obtain ⟨h1, h2, h3, h4⟩ := h
  simp only [show (1 : Int) > 0 from by decide, if_true, Bool.and_eq_true, Bool.or_eq_true, decide_eq_true_eq, beq_iff_eq]
  refine ⟨⟨⟨⟨⟨?_, ?_⟩, ⟨?_, ?_⟩⟩, ⟨?_, ?_⟩⟩, ⟨?_, ?_⟩⟩, .inr ⟨?_, ?_⟩⟩ <;> omega
section
variable {c : Cx} {R : RR} {H : Zaa} {A : Around} {E : Value → Shared → Prop} {s : Shared}
theorem Zhl {o : Obj} {Q : Value → Shared → Prop} (hnf : o.isFreed = false) (S : St c R H s.heap) (q : ∀ s' a, R a = none → H a = none → St c (rup R a (.obj o)) H s'.heap → Sm s s' → Q (.ref a) s') : Q (.ref s.heap.objs.size) { s with heap := s.heap.push o } := by
  obtain ⟨h1, h2, h3⟩ := S.newRes (x := s.heap.objs.size) (r := .obj o) (h' := s.heap.push o) (Nat.le_refl _) (fun _ _ z => Heap.get?_push_of_some _ z) (by rw [Heap.size_push]; omega) (Heap.get?_push_size _ hnf)
  exact q _ _ h1 h2 h3 ⟨_, _, rfl⟩
set_option tactic.hygienic true in
theorem Zpb {mg mb : Str → Option Value} {v : AV} {u : Value} {xs : List AV} {Q : Value → Shared → Prop} (C : c.Ok mg mb) (hv : VR v u) (S : St c R H s.heap) (hx : Zan H v = some xs)
    (q : ∀ s' a o, R a = none → H a = none → ItObj H v 0 o → St c (rup R a (.obj o)) H s'.heap → Sm s s' → Q (.ref a) s') : wpAny (model c.prog c.w) A (pyIter u) Q E s := by
  cases hv with
  | ref a =>
    simp only [Zan] at hx
    split at hx
    · rename_i ys e
      obtain ⟨vs, n, k1, k2, k3⟩ := Zbb (g := ⟨c, 0, true⟩) S e
      exact wpAny_pyIter_list k3 (Zhl rfl S fun s' b h1 h2 h3 h4 => q s' b _ h1 h2 (by simp [ItObj, e]) h3 h4)
    · rename_i ys e
      obtain ⟨vs, n, k1, k2, k3⟩ := Zct (g := ⟨c, 0, true⟩) S e
      exact wpAny_pyIter_tuple ⟨_, k1, rfl, _, rfl⟩ (Zhl rfl S fun s' b h1 h2 h3 h4 => q s' b _ h1 h2 (by simp [ItObj, e]) h3 h4)
    · rename_i lo hi e
      obtain ⟨⟨D, rg, t, u, w, hr⟩, _⟩ := S.orep e
      exact wpAny_pyIter_range hr (Zq0 rg) (Zhl rfl S fun s' b h1 h2 h3 h4 => q s' b _ h1 h2 (by simp [ItObj, e, Zn6]) h3 h4)
    · cases hx
  | str x t =>
    cases ha : x.cps.all (· < 128)
    · exact wpAny_pyIter_wide ha (Zhl rfl S fun s' b h1 h2 h3 h4 => q s' b _ h1 h2 ⟨t, .inr rfl, rfl⟩ h3 h4)
    · exact wpAny_pyIter_ascii ha (Zhl rfl S fun s' b h1 h2 h3 h4 => q s' b _ h1 h2 ⟨t, .inl rfl, rfl⟩ h3 h4)
  | none => cases hx
  | bool b => cases hx
  | int i t => cases hx
theorem Zs8 {x : Str} {i ch : Nat} (h : PyData.strOk x = true) (e : x.cps[i]? = some ch) : PyData.strOk ⟨#[ch]⟩ = true :=
  Zin (l := [ch]) (by intro c hc; simp at hc; subst hc; exact Zg3 h (Array.mem_of_getElem? e))
set_option tactic.hygienic true in
theorem Zla {v : AV} {xs : List AV} {x : AV} {k : Nat} {a : Addr} {o : Obj} {Q : Option Value → Shared → Prop} (hx : Zan H v = some xs) (hk : xs[k]? = some x) (hi : ItObj H v k o) (hr : R a = some (.obj o)) (S : St c R H s.heap)
    (hsv : ∀ y, v = .str y → PyData.strOk y = true)
    (q : ∀ s' u o', VR x u → ItObj H v (k + 1) o' → St c (rup R a (.obj o')) H s'.heap → Sm s s' → Q (some u) s') : wpAny (model c.prog c.w) A (pyNext (.ref a)) Q E s := by
  have ho : s.heap.get? a = some o := (S.res _ _ hr).2
  cases v with
  | ref p =>
    simp only [Zan] at hx
    split at hx
    · rename_i ys e
      cases hx
      obtain ⟨vs, n, k1, k2, k3⟩ := Zbb (g := ⟨c, 0, true⟩) S e
      obtain ⟨w, hw, hvr⟩ := k2.get hk
      simp only [ItObj, e] at hi
      refine wpAny_pyNext_list_item ⟨o, ho, hi.1, hi.2⟩ k3 (by simpa using hw) fun h' ⟨o', p1, p2, p3⟩ hs => ?_
      exact q _ w o' hvr (by simp only [ItObj, e]; exact ⟨p2, p3⟩) (S.setRes hr hs p1) ⟨_, _, rfl⟩
    · rename_i ys e
      cases hx
      obtain ⟨vs, n, k1, k2, k3⟩ := Zct (g := ⟨c, 0, true⟩) S e
      obtain ⟨w, hw, hvr⟩ := k2.get hk
      simp only [ItObj, e] at hi
      refine wpAny_pyNext_tuple_item (items := vs.toArray) ⟨o, ho, hi.1, hi.2⟩ ⟨_, k1, rfl, _, rfl⟩ (by simpa using hw) fun h' ⟨o', p1, p2, p3⟩ hs => ?_
      exact q _ w o' hvr (by simp only [ItObj, e]; exact ⟨p2, p3⟩) (S.setRes hr hs p1) ⟨_, _, rfl⟩
    · rename_i lo hi' e
      cases hx
      simp only [ItObj, e] at hi
      subst hi
      have hlt : k < (hi' - lo).toNat := by
        have := (List.getElem?_eq_some_iff.mp hk).1
        simpa using this
      have hxe : x = .int (lo + k) := by
        rw [List.getElem?_map, List.getElem?_range hlt] at hk
        simpa using hk.symm
      subst hxe
      refine wpAny_pyNext_range_item (x := lo + k) (left := ((hi' - lo).toNat : Int) - k) (step := 1) ho (by omega) fun h' p1 hs => ?_
      refine q _ _ _ (.int _ _) ?_ (S.setRes (r' := .obj _) hr hs p1) ⟨_, _, rfl⟩
      simp only [ItObj, e]
      have e1 : lo + (k : Int) + 1 = lo + ((k + 1 : Nat) : Int) := by omega
      have e2 : ((hi' - lo).toNat : Int) - k - 1 = ((hi' - lo).toNat : Int) - ((k + 1 : Nat) : Int) := by omega
      rw [e1, e2]
    · cases hx
  | str y =>
    cases hx
    rw [List.getElem?_map, Option.map_eq_some_iff] at hk
    obtain ⟨ch, hk1, rfl⟩ := hk
    have hch : y.cps[k]? = some ch := by rw [← Array.getElem?_toList]; exact hk1
    obtain ⟨t, hc, hd⟩ := hi
    have hok := Zs8 (hsv y rfl) hch
    rcases hc with hc | hc
    · refine wpAny_pyNext_ascii_item ⟨o, ho, hc, hd⟩ hch fun h' ⟨o', p1, p2, p3⟩ hs => ?_
      exact q _ _ o' (.str _ _ hok) ⟨t, .inl p2, p3⟩ (S.setRes hr hs p1) ⟨_, _, rfl⟩
    · refine wpAny_pyNext_wide_item ⟨o, ho, hc, hd⟩ hch fun h' ⟨o', p1, p2, p3⟩ hs => ?_
      exact q _ _ o' (.str _ _ hok) ⟨t, .inr p2, p3⟩ (S.setRes hr hs p1) ⟨_, _, rfl⟩
  | none => cases hx
  | bool b => cases hx
  | int i => cases hx
theorem St1.dropAny {h h' : Heap} {a : Addr} {r0 : Res} (S : St1 c R H h) (hr : R a = some r0) (k : Heap.ExtBut a h h') (hsz : c.base.objs.size ≤ h'.objs.size) : St1 c (Zca R a) H h' := by
  obtain ⟨s1, s2, s3, D, s4⟩ := S
  have nn : ∀ b, R b = none → Zca R a b = none := fun b e => by
    cases q : Zca R a b with
    | none => rfl
    | some r => rw [Zem b r q] at e; cases e
  refine ⟨fun b o' e => k b o' (fun z => ?_) (s1 b o' e), hsz, fun b r e => ⟨(s3 b r (Zem b r e)).1, (s3 b r (Zem b r e)).2.agree fun ob z => k b ob (fun w => ?_) z⟩, D, ⟨fun b ao e => ?_, fun b ao e => ⟨(s4.above b ao e).1, nn _ (s4.above b ao e).2⟩, fun b cl es e => ?_, s4.inj⟩⟩
  · have := leN (s3 a _ hr).1; have := lts e; rw [z] at this; omega
  · rw [w, Zb2] at e; cases e
  · refine (s4.rep b ao e).agree (fun ob z => k b ob (fun w => ?_) z) fun cl es eo => ⟨rfl, fun ob z => k _ ob (fun w => ?_) z⟩
    · have := (s4.above b ao e).2; rw [w, hr] at this; cases this
    · subst eo; have := (s4.dict b cl es e).2.1; rw [w, hr] at this; cases this
  · obtain ⟨y1, y2, y3⟩ := s4.dict b cl es e
    exact ⟨y1, nn _ y2, y3⟩
theorem St.dropAny {h h' : Heap} {a : Addr} {r0 : Res} (S : St c R H h) (hr : R a = some r0) (k : Heap.ExtBut a h h') (hsz : c.base.objs.size ≤ h'.objs.size) : St c (Zca R a) H h' := let ⟨H₁, s, r⟩ := S; ⟨H₁, s.dropAny hr k hsz, r⟩
set_option tactic.hygienic true in
theorem Zpc {v : AV} {xs : List AV} {k : Nat} {a L : Addr} {m : Str → Option Value} {o : Obj} {Q : Option Value → Shared → Prop} (hh : A.handled = none) (hx : Zan H v = some xs) (hk : xs[k]? = none) (hi : ItObj H v k o) (hr : R a = some (.obj o)) (hL : R L = some (.ns m)) (S : St c R H s.heap)
    (q : ∀ s', St c (Zca R a) H s'.heap → Sm s s' → Q none s') : wpAny (model c.prog c.w) A (pyNext (.ref a)) Q E s := by
  have ho : s.heap.get? a = some o := (S.res _ _ hr).2
  have fin : ∀ h', Heap.ExtBut a s.heap h' → Q none { s with heap := h' } := fun h' k => by
    refine q _ (S.dropAny hr k ?_) ⟨_, _, rfl⟩
    obtain ⟨oL, es, ep, w, _⟩ := (S.res _ _ hL).2
    have h1 := leN (S.res _ _ hL).1
    have h2 := lts (k L oL (fun z => by rw [z, hr] at hL; cases hL) w)
    exact Nat.le_of_lt (Nat.lt_of_le_of_lt h1 h2)
  cases v with
  | ref p =>
    simp only [Zan] at hx
    split at hx
    · rename_i ys e
      cases hx
      obtain ⟨vs, n, k1, k2, k3⟩ := Zbb (g := ⟨c, 0, true⟩) S e
      simp only [ItObj, e] at hi
      refine wpAny_pyNext_list_end hh ⟨o, ho, hi.1, hi.2⟩ k3 ?_ fin
      have := k2.length
      simp at hk ⊢; omega
    · rename_i ys e
      cases hx
      obtain ⟨vs, n, k1, k2, k3⟩ := Zct (g := ⟨c, 0, true⟩) S e
      simp only [ItObj, e] at hi
      refine wpAny_pyNext_tuple_end (items := vs.toArray) hh ⟨o, ho, hi.1, hi.2⟩ ⟨_, k1, rfl, _, rfl⟩ ?_ fin
      have := k2.length
      simp at hk ⊢; omega
    · rename_i lo hi' e
      cases hx
      simp only [ItObj, e] at hi
      subst hi
      have hlt : (hi' - lo).toNat ≤ k := by simpa using hk
      exact wpAny_pyNext_range_end (x := lo + k) (left := ((hi' - lo).toNat : Int) - k) (step := 1) hh ho (by omega) fin
    · cases hx
  | str y =>
    cases hx
    have hch : y.cps[k]? = none := by rw [← Array.getElem?_toList]; simpa using hk
    obtain ⟨t, hc, hd⟩ := hi
    rcases hc with hc | hc
    · exact wpAny_pyNext_ascii_end hh ⟨o, ho, hc, hd⟩ hch fin
    · exact wpAny_pyNext_wide_end hh ⟨o, ho, hc, hd⟩ hch fin
  | none => cases hx
  | bool b => cases hx
  | int i => cases hx
end
end Mine
end
section
open PySem PySem.W PyProof.Rows PySem.Spec PySem.SeqAt PySem.Calls
namespace Mine
noncomputable def RStep (env : Env) (R R' : RR) : Prop := ∀ b, R' b = R b ∨ (b = env.locals ∧ ∃ m m', R b = some (.ns m) ∧ R' b = some (.ns m')) ∨ ((∃ n, env.cells.lookup n = some b) ∧ ∃ x x', R b = some (.cell x) ∧ R' b = some (.cell x'))
theorem RStep.refl {env : Env} {R : RR} : RStep env R R := fun _ => .inl rfl
theorem RStep.trans {env : Env} {R R' R'' : RR} (x : RStep env R R') (y : RStep env R' R'') : RStep env R R'' := fun b => by
  rcases x b with h | ⟨h1, m, m', h2, h3⟩ | ⟨h1, m, m', h2, h3⟩
  · rcases y b with k | ⟨k1, m, m', k2, k3⟩ | ⟨k1, m, m', k2, k3⟩
    · exact .inl (k.trans h)
    · exact .inr (.inl ⟨k1, m, m', by rw [← h]; exact k2, k3⟩)
    · exact .inr (.inr ⟨k1, m, m', by rw [← h]; exact k2, k3⟩)
  · rcases y b with k | ⟨k1, n, n', k2, k3⟩ | ⟨k1, n, n', k2, k3⟩
    · exact .inr (.inl ⟨h1, m, m', h2, by rw [k]; exact h3⟩)
    · exact .inr (.inl ⟨h1, m, n', h2, k3⟩)
    · rw [h3] at k2; cases k2
  · rcases y b with k | ⟨k1, n, n', k2, k3⟩ | ⟨k1, n, n', k2, k3⟩
    · exact .inr (.inr ⟨h1, m, m', h2, by rw [k]; exact h3⟩)
    · rw [h3] at k2; cases k2
    · exact .inr (.inr ⟨h1, m, n', h2, k3⟩)
theorem RStep.ns {env : Env} {R R' : RR} (x : RStep env R R') {a : Addr} {m} (h : R a = some (.ns m)) : ∃ m', R' a = some (.ns m') := by
  rcases x a with k | ⟨_, _, m', _, k⟩ | ⟨_, _, _, k, _⟩
  · exact ⟨m, k.trans h⟩
  · exact ⟨m', k⟩
  · rw [h] at k; cases k
theorem RStep.obj {env : Env} {R R' : RR} (x : RStep env R R') {a : Addr} {o} (h : R a = some (.obj o)) : R' a = some (.obj o) := by
  rcases x a with k | ⟨_, _, m', k, _⟩ | ⟨_, _, _, k, _⟩
  · exact k.trans h
  · rw [h] at k; cases k
  · rw [h] at k; cases k
theorem RStep.none {env : Env} {R R' : RR} (x : RStep env R R') {a : Addr} (h : R a = Option.none) : R' a = Option.none := by
  rcases x a with k | ⟨_, _, m', k, _⟩ | ⟨_, _, _, k, _⟩
  · exact k.trans h
  · rw [h] at k; cases k
  · rw [h] at k; cases k
theorem RStep.stk {env : Env} {R R' : RR} (x : RStep env R R') {l : List Env} (h : Stk R l) : Stk R' l := fun e he =>
  let F := h e he
  ⟨F.kind, F.frame, F.gen, F.co, F.blt, F.glob, let ⟨_, hm⟩ := F.ns; x.ns hm⟩
theorem Ev.step {g : Gx} {A : Around} {R R' : RR} {env e : Env} {l : List Env} (x : RStep env R R') (h : Ev g A R e l) : Ev g A R' e l := ⟨h.aok, x.stk h.stk⟩
theorem Frm.congr {R R' : RR} {env : Env} {sc : Scope} {nm : List Str} {V : VV} (fr : Frm R env sc nm V) (h : ∀ b, (∃ m, R b = some (.ns m)) ∨ (∃ x, R b = some (.cell x)) → R' b = R b) : Frm R' env sc nm V := by
  obtain ⟨k1, k2, k3, k4, k5, k6, k7, kc, kl, k8, ⟨m, n1, n2⟩, k9⟩ := fr
  refine ⟨k1, k2, k3, k4, k5, k6, k7, kc, kl, k8, ⟨m, (h _ (.inl ⟨m, n1⟩)).trans n1, n2⟩, fun i n hn hk => ?_⟩
  obtain ⟨a, x, v, c1, c2, c3⟩ := k9 i n hn hk
  exact ⟨a, x, v, c1, (h _ (.inr ⟨x, c2⟩)).trans c2, c3⟩
section
variable {c : Cx} {R : RR} {H : Zaa} {V : VV} {env : Env} {sc : Scope} {nm : List Str}
theorem Frm.local' (fr : Frm R env sc nm V) (nd : nm.Nodup) {i : Nat} {id : Str} {x : Option AV} {w : Option Value} {m : Str → Option Value} (hi : nm[i]? = some id) (hl : env.kindOf id = some .local) (hm : R env.locals = some (.ns m)) (hv : OVW x w) :
    Frm (rup R env.locals (.ns fun y => if y = id then w else m y)) env sc nm (V.set i x) := by
  obtain ⟨k1, k2, k3, k4, k5, k6, k7, kc, kl, k8, ⟨m', n1, n2⟩, k9⟩ := fr
  rw [hm] at n1; cases n1
  have hnd : ∀ {j : Nat} {n : Str}, nm[j]? = some n → (n = id ↔ j = i) := fun {j n} hj => by
    constructor
    · rintro rfl
      have h1 := List.getElem?_eq_some_iff.mp hj
      have h2 := List.getElem?_eq_some_iff.mp hi
      exact (List.getElem_inj nd).mp (h1.2.trans h2.2.symm)
    · rintro rfl; rw [hi] at hj; cases hj; rfl
  refine ⟨k1, k2, k3, k4, k5, k6, k7, kc, by rw [List.length_set]; exact kl, k8, ⟨_, Zaq, fun j n hj hk => ?_⟩, fun j n hj hk => ?_⟩
  · obtain ⟨v, v1, v2⟩ := n2 j n hj hk
    by_cases q : n = id
    · have := (hnd hj).mp q
      subst q this
      have hlt := (List.getElem?_eq_some_iff.mp v1).1
      exact ⟨x, by simp [hlt], by simpa using hv⟩
    · have hne : j ≠ i := fun z => q ((hnd hj).mpr z)
      exact ⟨v, by rw [List.getElem?_set_ne (Ne.symm hne)]; exact v1, by simp only [q, if_false]; exact v2⟩
  · obtain ⟨a, y, v, c1, c2, c3, c4⟩ := k9 j n hj hk
    have hna : a ≠ env.locals := fun z => by rw [z, hm] at c2; cases c2
    have hne : j ≠ i := fun z => by
      have := (hnd hj).mpr z
      subst this
      rw [hl] at hk; rcases hk with hk | hk <;> cases hk
    exact ⟨a, y, v, c1, by rw [Zah hna]; exact c2, by rw [List.getElem?_set_ne (Ne.symm hne)]; exact c3, c4⟩
theorem Frm.cell' (fr : Frm R env sc nm V) (nd : nm.Nodup) {i : Nat} {id : Str} {a : Addr} {x : Option AV} {w y : Option Value} (hi : nm[i]? = some id) (hl : env.kindOf id = some .cell) (ha : env.cells.lookup id = some a) (hr : R a = some (.cell y)) (hv : OVW x w) :
    Frm (rup R a (.cell w)) env sc nm (V.set i x) := by
  obtain ⟨k1, k2, k3, k4, k5, k6, k7, kc, kl, k8, ⟨m', n1, n2⟩, k9⟩ := fr
  have hnd : ∀ {j : Nat} {n : Str}, nm[j]? = some n → (n = id ↔ j = i) := fun {j n} hj => by
    constructor
    · rintro rfl
      have h1 := List.getElem?_eq_some_iff.mp hj
      have h2 := List.getElem?_eq_some_iff.mp hi
      exact (List.getElem_inj nd).mp (h1.2.trans h2.2.symm)
    · rintro rfl; rw [hi] at hj; cases hj; rfl
  have hna : env.locals ≠ a := fun z => by rw [z, hr] at n1; cases n1
  refine ⟨k1, k2, k3, k4, k5, k6, k7, kc, by rw [List.length_set]; exact kl, k8, ⟨m', by rw [Zah hna]; exact n1, fun j n hj hk => ?_⟩, fun j n hj hk => ?_⟩
  · obtain ⟨v, v1, v2⟩ := n2 j n hj hk
    have hne : j ≠ i := fun z => by
      have := (hnd hj).mpr z
      subst this
      rw [hl] at hk; cases hk
    exact ⟨v, by rw [List.getElem?_set_ne (Ne.symm hne)]; exact v1, v2⟩
  · obtain ⟨b, z, v, c1, c2, c3, c4⟩ := k9 j n hj hk
    by_cases q : n = id
    · have := (hnd hj).mp q
      subst q this
      rw [ha] at c1; cases c1
      have hlt := (List.getElem?_eq_some_iff.mp c3).1
      exact ⟨a, w, x, ha, Zaq, by simp [hlt], hv⟩
    · have hne : j ≠ i := fun z => q ((hnd hj).mpr z)
      have hab : b ≠ a := fun z => q (k8 n id a (by rw [← z]; exact c1) ha)
      exact ⟨b, z, v, c1, by rw [Zah hab]; exact c2, by rw [List.getElem?_set_ne (Ne.symm hne)]; exact c3, c4⟩
theorem Zft {M : Model} {A : Around} {E : Value → Shared → Prop} {s : Shared} {i : Nat} {id : Str} {x : AV} {u : Value} {Q : Unit → Shared → Prop} (fr : Frm R env sc nm V) (nd : nm.Nodup) (hi : nm[i]? = some id) (hk : Zdm sc id = true) (hv : VR x u)
    (S : St c R H s.heap) (q : ∀ s' R', RStep env R R' → Frm R' env sc nm (V.set i (some x)) → St c R' H s'.heap → Sm s s' → Q () s') : wpAny M A (storeName env id u) Q E s := by
  obtain ⟨m, hm, _⟩ := fr.ns
  rcases fr.lok id hk with hl | hl
  · refine wpAny_storeName_local hl (S.res _ _ hm).2 (fun h' hn hs => ?_) (by rw [fr.kind]; rfl)
    refine q _ _ (fun b => ?_) (fr.local' nd hi hl hm (.some hv)) (S.setRes (r' := .ns _) hm hs hn) ⟨_, _, rfl⟩
    by_cases z : b = env.locals
    · subst z; exact .inr (.inl ⟨rfl, _, _, hm, Zaq⟩)
    · exact .inl (Zah z)
  · obtain ⟨a, y, v, c1, c2, c3, c4⟩ := fr.cell i id hi (.inl hl)
    refine wpAny_storeName_cell fr.kind hl c1 (S.res _ _ c2).2 fun h' hn hs => ?_
    refine q _ _ (fun b => ?_) (fr.cell' nd hi hl c1 c2 (.some hv)) (S.setRes (r' := .cell _) c2 hs hn) ⟨_, _, rfl⟩
    by_cases z : b = a
    · subst z; exact .inr (.inr ⟨⟨_, c1⟩, _, _, c2, Zaq⟩)
    · exact .inl (Zah z)
theorem ExcSt1.weaken {R' : RR} {e : Addr} {cl : String} {fl : Value} {h : Heap} (X : ExcSt1 c R' H e cl fl h) (k : ∀ b r, R b = some r → R' b = some r) : ExcSt1 c R H e cl fl h := by
  obtain ⟨st, re, he, be, ob, kn⟩ := X
  have nn : ∀ a, R' a = none → R a = none := fun a e => by
    cases q : R a with
    | none => rfl
    | some r => rw [k a r q] at e; cases e
  refine ⟨st.weaken k, nn _ re, he, be, ?_, kn⟩
  cases ob with
  | fresh h1 => exact .fresh h1
  | traced h1 h2 h3 h4 h5 h6 h7 h8 h9 h10 h11 h12 h13 => exact .traced h1 h2 h3 h4 h5 h6 (nn _ h7) h8 h9 h10 h11 h12 h13
theorem ExcAt.obj {e : Addr} {cls fl : Value} {h : Heap} (X : ExcAt c R H h e cls fl) : ∃ o vs, h.get? e = some o ∧ o.cls = cls ∧ o.data = .fields vs := by
  cases X with
  | fresh h1 => exact ⟨_, _, h1, rfl, rfl⟩
  | traced h1 h2 h3 => exact ⟨_, _, h1, h2, h3⟩
theorem ExcSt1.caught {e : Addr} {cl : String} {fl : Value} {h : Heap} (X : ExcSt1 c R H e cl fl h) : St1 c R (up H e (.exc cl)) h := by
  obtain ⟨⟨s1, s2, s3, D, s4⟩, re, he, be, ob, kn⟩ := X
  obtain ⟨o, vs, o1, o2, o3⟩ := ob.obj
  refine ⟨s1, s2, s3, D, ⟨fun a ao z => ?_, fun a ao z => ?_, fun a cl' es z => ?_, fun a b cl' es cl'' es' z z' => ?_⟩⟩
  · by_cases q : a = e
    · subst q; rw [Zad] at z; cases z; exact ⟨o, o1, o2, vs, o3⟩
    · rw [Zab q] at z; exact s4.rep a ao z
  · by_cases q : a = e
    · subst q; rw [Zad] at z; cases z; exact ⟨⟨fun _ => be, fun w => by cases w⟩, re⟩
    · rw [Zab q] at z; exact s4.above a ao z
  · by_cases q : a = e
    · subst q; rw [Zad] at z; cases z
    · rw [Zab q] at z
      obtain ⟨y1, y2, y3⟩ := s4.dict a cl' es z
      refine ⟨y1, y2, ?_⟩
      rw [Zab (fun w => ?_)]; · exact y3
      obtain ⟨_, ents, n, w', _⟩ := s4.rep a _ z
      rw [w, o1] at w'; cases w'; cases o3
  · by_cases q : a = e
    · subst q; rw [Zad] at z; cases z
    · by_cases q' : b = e
      · subst q'; rw [Zad] at z'; cases z'
      · rw [Zab q] at z; rw [Zab q'] at z'; exact s4.inj a b cl' es cl'' es' z z'
theorem ExcSt.weaken {R' : RR} {e : Addr} {cl : String} {fl : Value} {h : Heap} (X : ExcSt c R' H e cl fl h) (k : ∀ b r, R b = some r → R' b = some r) : ExcSt c R H e cl fl h := let ⟨H₁, X, r⟩ := X; ⟨H₁, X.weaken k, r⟩
theorem ExcSt.obj {e : Addr} {cl : String} {fl : Value} {h : Heap} (X : ExcSt c R H e cl fl h) : ∃ o vs, h.get? e = some o ∧ o.cls = .ref (c.ca cl) ∧ o.data = .fields vs := let ⟨_, X, _⟩ := X; X.ob.obj
theorem ExcSt.caught {e : Addr} {cl : String} {fl : Value} {h : Heap} (X : ExcSt c R H e cl fl h) : St c R (up H e (.exc cl)) h := let ⟨_, X, r⟩ := X; ⟨_, X.caught, r.put rfl (.inl X.he)⟩
end
inductive TFn (c : Cx) (env : Env) (sc : Scope) (nm : List Str) (R : RR) (s0 : Shared) (QN : VV → Zaa → Prop) (s' : Shared) : Prop
  | mk (R' : RR) (V' : VV) (H' : Zaa) (r : RStep env R R') (f : Frm R' env sc nm V') (S : St c R' H' s'.heap) (m : Sm s0 s') (q : QN V' H') : TFn c env sc nm R s0 QN s'
inductive TFr (c : Cx) (env : Env) (R : RR) (s0 : Shared) (QR : AV → Zaa → Prop) (v : Value) (s' : Shared) : Prop
  | mk (R' : RR) (av : AV) (H' : Zaa) (r : RStep env R R') (hv : VR av v) (S : St c R' H' s'.heap) (m : Sm s0 s') (q : QR av H') : TFr c env R s0 QR v s'
inductive TXi (c : Cx) (env : Env) (sc : Scope) (nm : List Str) (R : RR) (s0 : Shared) (E : String → VV → Zaa → Prop) (e : Value) (s' : Shared) : Prop
  | mk (a : Addr) (cl : String) (R' : RR) (V' : VV) (H' : Zaa) (fl : Value) (h : e = .ref a) (r : RStep env R R') (f : Frm R' env sc nm V') (k : FlOk env fl) (X : ExcSt c R' H' a cl fl s'.heap) (m : Sm s0 s') (q : E cl V' H') : TXi c env sc nm R s0 E e s'
noncomputable def TF (g : Gx) (env : Env) (sc : Scope) (nm : List Str) (R : RR) (s0 : Shared) (QN : VV → Zaa → Prop) (QR : AV → Zaa → Prop) (f : Flow) (s' : Shared) : Prop :=
  match f with
  | .next => TFn g.c env sc nm R s0 QN s'
  | .ret v => TFr g.c env R s0 QR v s'
  | _ => False
noncomputable def TX (g : Gx) (env : Env) (sc : Scope) (nm : List Str) (R : RR) (s0 : Shared) (E : String → VV → Zaa → Prop) (e : Value) (s' : Shared) : Prop :=
  TXi g.c env sc nm R s0 E e s'
noncomputable def SOk (g : Gx) (sc : Scope) (nm : List Str) (w : Gx → (VV → Zaa → Prop) → (AV → Zaa → Prop) → (String → VV → Zaa → Prop) → VV → Zaa → Prop) (t : Env → Sem Flow) : Prop :=
  ∀ (md : Bool) (A : Around) (env : Env) (l₀ : List Env) (R : RR) (V : VV) (s0 s : Shared) (H : Zaa) (QN : VV → Zaa → Prop) (QR : AV → Zaa → Prop) (E : String → VV → Zaa → Prop),
    Ev { g with md := md } A R env l₀ → Frm R env sc nm V → St g.c R H s.heap → Sm s0 s → w { g with md := md } QN QR E V H →
    wpAny (model g.c.prog g.c.w) A (t env) (TF g env sc nm R s0 QN QR) (TX g env sc nm R s0 E) s
end Mine
end
section
open PySem PySem.W PyProof.Rows PySem.Spec PySem.SeqAt PySem.Calls
namespace Mine
section
variable {c : Cx} {R : RR} {H : Zaa} {A : Around} {E : Value → Shared → Prop} {s : Shared}
theorem Zku {R : RR} {a : Addr} {r r' : Res} : rup (rup R a r) a r' = rup R a r' := by
  funext b
  by_cases q : b = a
  · subst q; rw [Zaq, Zaq]
  · rw [Zah q, Zah q, Zah q]
theorem Zn7 {R : RR} {a : Addr} {r : Res} (h : R a = none) : Zca (rup R a r) a = R := by
  funext b
  by_cases q : b = a
  · subst q; rw [Zb2, h]
  · rw [Za0 q, Zah q]
theorem Zpy {p a : Addr} {xs : List AV} (hx : Zan H (.ref p) = some xs) : ∀ (n k : Nat) (s : Shared) (o : Obj) (Q : List Value → Shared → Prop), k + n ≤ xs.length → ItObj H (.ref p) k o → St c (rup R a (.obj o)) H s.heap →
    (∀ s' o' vs, ItObj H (.ref p) (k + n) o' → VRs ((xs.drop k).take n) vs → St c (rup R a (.obj o')) H s'.heap → Sm s s' → Q vs s') → wpAny (model c.prog c.w) A (draw (.ref a) n) Q E s
  | 0, k, s, o, Q, _, hi, S, q => wpAny_pure (q s o [] hi (by rw [List.take_zero]; exact .nil) S ⟨_, _, rfl⟩)
  | n + 1, k, s, o, Q, hk, hi, S, q => by
    have hlt : k < xs.length := by omega
    show wpAny _ _ (pyNext (.ref a) >>= _) Q E s
    refine wpAny_bind (Zla (x := xs[k]) hx (by simp [hlt]) hi Zaq S (fun y z => by cases z) fun s₁ u o₁ hu ho1 S₁ m₁ => ?_)
    rw [Zku] at S₁
    refine wpAny_bind (wpAny_holding (Zpy hx n (k + 1) s₁ o₁ _ (by omega) ho1 S₁ fun s₂ o₂ vs ho2 hv S2 m₂ => wpAny_pure ?_))
    refine q s₂ o₂ (u :: vs) (by rw [show k + (n + 1) = k + 1 + n by omega]; exact ho2) ?_ S2 (m₁.trans m₂)
    rw [List.drop_eq_getElem_cons hlt, List.take_succ_cons]
    exact .cons hu hv
theorem Zi8 {mg mb : Str → Option Value} {p L : Addr} {mL : Str → Option Value} {xs : List AV} {Q : List Value → Shared → Prop} (C : c.Ok mg mb) (hh : A.handled = none) (hL : R L = some (.ns mL)) (S : St c R H s.heap) (hx : H p = some (.tuple xs) ∨ H p = some (.list xs))
    (q : ∀ s' vs, VRs xs vs → St c R H s'.heap → Sm s s' → Q vs s') : wpAny (model c.prog c.w) A (unpackItems (.ref p) xs.length none) Q E s := by
  have hit : Zan H (.ref p) = some xs := by rcases hx with e | e <;> simp [Zan, e]
  unfold unpackItems
  refine wpAny_bind ?_
  have hno : wpAny (model c.prog c.w) A (notIterableAtAll (.ref p)) (fun b s' => b = false ∧ s' = s) E s := by
    unfold notIterableAtAll
    rcases hx with e | e
    · obtain ⟨vs, n, k1, k2, k3⟩ := Zct (g := ⟨c, 0, true⟩) S e
      refine wpAny_bind (wpAny_specialOf ⟨_, k1, rfl⟩ PySem.F.slot_tuple_iter.lookup (wpAny_pure ⟨rfl, rfl⟩))
    · obtain ⟨vs, n, k1, k2, k3⟩ := Zbb (g := ⟨c, 0, true⟩) S e
      refine wpAny_bind (wpAny_specialOf ⟨_, k1, rfl⟩ PySem.slot_list_iter.lookup (wpAny_pure ⟨rfl, rfl⟩))
  refine wpAny_mono hno (fun b s' z => ?_) fun _ _ z => z
  obtain ⟨rfl, rfl⟩ := z
  dsimp only [Bool.false_eq_true, if_false]
  refine wpAny_bind (wpAny_holding (Zpb C (.ref p) S hit fun s₁ a o ha hHa ho S₁ m₁ => ?_))
  refine wpAny_bind (wpAny_holding (Zpy hit xs.length 0 s₁ o _ (by omega) ho S₁ fun s₂ o₂ vs ho2 hv S2 m₂ => ?_))
  rw [List.drop_zero, List.take_length] at hv
  rw [if_neg (by rw [← hv.length]; exact Nat.lt_irrefl _)]
  have hLa : L ≠ a := fun z => by rw [z, ha] at hL; cases hL
  refine wpAny_bind (wpAny_holding (Zpc hh hit (by simp) ho2 Zaq (by rw [Zah hLa]; exact hL) S2 fun s₃ S3 m3 => ?_))
  rw [Zn7 ha] at S3
  dsimp only [Option.isSome_none, Bool.false_eq_true, if_false]
  exact wpAny_pure (q s₃ vs hv S3 ((m₁.trans m₂).trans m3))
noncomputable def TgK (e : PySem.Expr) : Prop := (∃ id p, e = .Name id p) ∨ ∃ es k p, e = .Tuple es k p
theorem Zl0 {v : AV} {k : Nat} {a : Addr} {o : Obj} {tg : PySem.Expr} {u : Value} {Q : Unit → Shared → Prop} (tk : TgK tg) (hi : ItObj H v k o) (ho : s.heap.get? a = some o) (q : Q () s) : wpAny (model c.prog c.w) A (letOwnedTupleGo tg (.ref a) u) Q E s := by
  have key : ∀ n vs, o.cls = .type n → o.data = .fields vs → ["enumerate", "zip", "dict_itemiterator", "dict_reverseitemiterator", "odict_iterator", "itertools.zip_longest", "itertools.pairwise"].contains n = false →
      wpAny (model c.prog c.w) A (letOwnedTupleGo tg (.ref a) u) Q E s := by
    intro n vs h1 h2 h3
    rcases tk with ⟨id, p, rfl⟩ | ⟨es, kk, p, rfl⟩
    · exact wpAny_pure q
    · cases u with
      | ref T =>
        unfold letOwnedTupleGo
        refine wpAny_bind (wpAny_load ho ?_)
        rw [h1, h2]
        show wpAny _ A (if (["enumerate", "zip", "dict_itemiterator", "dict_reverseitemiterator", "odict_iterator", "itertools.zip_longest", "itertools.pairwise"].contains n && vs[0]? == some (rawInt T)) = true then _ else _) Q E s
        rw [h3, Bool.false_and, if_neg Bool.false_ne_true]
        exact wpAny_pure q
      | _ => exact wpAny_pure q
  cases v with
  | ref p =>
    simp only [ItObj] at hi
    split at hi
    · exact key _ _ hi.1 hi.2 (by decide)
    · exact key _ _ hi.1 hi.2 (by decide)
    · subst hi; exact key _ _ rfl rfl (by decide)
    · exact hi.elim
  | str y =>
    obtain ⟨t, hc, hd⟩ := hi
    rcases hc with hc | hc
    · exact key _ _ hc hd (by decide)
    · exact key _ _ hc hd (by decide)
  | none => exact hi.elim
  | bool b => exact hi.elim
  | int i => exact hi.elim
end
theorem Zia {e : PySem.Expr} {r : List PySem.Expr} {ts : List Str} (h : Zcz (e :: r) ts = true) : ∃ id p ts', e = .Name id p ∧ ts = id :: ts' ∧ Zcz r ts' = true :=
  Zc7 (m := fun ts => ∃ id p ts', e = .Name id p ∧ ts = id :: ts' ∧ Zcz r ts' = true) h fun t q h =>
    Zb4 (m := fun e => ∃ id p ts', e = .Name id p ∧ t :: q = id :: ts' ∧ Zcz r ts' = true) (and2 h).1 fun id p h1 => ⟨id, p, q, rfl, by rw [eq_of_beq h1], (and2 h).2⟩
theorem Zgo {env : Env} {es : List PySem.Expr} : ∀ {ts : List Str}, Zcz es ts = true → (assignEach es env).length = ts.length ∧ (assignEach es env).findIdx? (·.1) = none := by
  induction es with
  | nil => intro ts h; exact Zbx (m := fun ts => _ = ts.length ∧ _) h ⟨rfl, rfl⟩
  | cons e r ih =>
    intro ts h
    obtain ⟨id, p, ts', rfl, rfl, h1⟩ := Zia h
    obtain ⟨i1, i2⟩ := ih h1
    exact ⟨congrArg Nat.succ i1, by show List.findIdx? _ ((false, _) :: assignEach r env) = none; rw [List.findIdx?_cons, i2]; rfl⟩
end Mine
end
section
open PySem PySem.W PyProof.Rows PySem.Spec PySem.SeqAt PySem.Calls
namespace Mine
noncomputable def Zc0 (env : Env) : List (Str × NameKind) → List (Str × Addr) → List (Str × Addr)
  | [], acc => acc
  | (n, k) :: r, acc => if k == .free then Zc0 env r ((n, (env.cells.lookup n).getD 0) :: acc) else Zc0 env r acc
theorem Zuf {env : Env} (f : Str × NameKind → List (Str × Addr) → Sem (ForInStep (List (Str × Addr)))) (hf : ∀ n k cs, f (n, k) cs = if k == .free then (do let a ← cellOf env n; pure (.yield ((n, a) :: cs))) else pure (.yield cs))
    (names : List (Str × NameKind)) (acc : List (Str × Addr)) (h : ∀ p ∈ names, p.2 = .free → ∃ a, env.cells.lookup p.1 = some a) : forIn names acc f = (pure (Zc0 env names acc) : Sem _) := by
  induction names generalizing acc with
  | nil => rw [List.forIn_nil]; rfl
  | cons nk r ih =>
    obtain ⟨n, k⟩ := nk
    rw [List.forIn_cons, hf]
    unfold Zc0
    cases hk : k == NameKind.free with
    | true =>
      obtain ⟨a, ha⟩ := h (n, k) (.head _) (by simpa using hk)
      simp only [if_true, cellOf, ha, Option.getD_some]
      exact ih _ fun p hp => h p (.tail _ hp)
    | false =>
      simp only [Bool.false_eq_true, if_false]
      exact ih _ fun p hp => h p (.tail _ hp)
theorem Zi4 {env : Env} {sc : Scope} (h : ∀ p ∈ sc.names, p.2 = .free → ∃ a, env.cells.lookup p.1 = some a) : closureFor sc env = pure (Zc0 env sc.names []) := by
  unfold closureFor
  dsimp only
  rw [Zuf (env := env) _ (fun n k cs => by cases hk : k == NameKind.free <;> simp only [hk]) sc.names [] h]
  rfl
set_option tactic.hygienic true in
theorem Zp4 {env : Env} {names : List (Str × NameKind)} {acc : List (Str × Addr)} {n : Str} {a : Addr} (h : (n, a) ∈ Zc0 env names acc) : (n, a) ∈ acc ∨ ((n, NameKind.free) ∈ names ∧ a = (env.cells.lookup n).getD 0) := by
  induction names generalizing acc with
  | nil => exact .inl h
  | cons nk r ih =>
    obtain ⟨n', k⟩ := nk
    unfold Zc0 at h
    split at h
    · rename_i hk
      rcases ih h with h | ⟨h1, h2⟩
      · rcases List.mem_cons.mp h with h | h
        · cases h
          exact .inr ⟨by rw [← (by simpa using hk : k = .free)]; exact .head _, rfl⟩
        · exact .inl h
      · exact .inr ⟨.tail _ h1, h2⟩
    · rcases ih h with h | ⟨h1, h2⟩
      · exact .inl h
      · exact .inr ⟨.tail _ h1, h2⟩
theorem Zp6 {env : Env} {names : List (Str × NameKind)} {acc : List (Str × Addr)} {p : Str × Addr} (h : p ∈ acc) : p ∈ Zc0 env names acc := by
  induction names generalizing acc with
  | nil => exact h
  | cons nk r ih =>
    unfold Zc0
    split
    · exact ih (.tail _ h)
    · exact ih h
theorem Zp5 {env : Env} {names : List (Str × NameKind)} {acc : List (Str × Addr)} {n : Str} (h : (n, NameKind.free) ∈ names) : (n, (env.cells.lookup n).getD 0) ∈ Zc0 env names acc := by
  induction names generalizing acc with
  | nil => cases h
  | cons nk r ih =>
    unfold Zc0
    rcases List.mem_cons.mp h with h | h
    · cases h; simp only [beq_self_eq_true, if_true]; exact Zp6 (.head _)
    · split <;> exact ih h
theorem Zht {env : Env} {names : List (Str × NameKind)} {x : Str} :
    (names.map fun (n, k) => if (k == NameKind.free && env.scope.kind == .function && env.kindOf n == some .cell) then (n, NameKind.cell) else (n, k)).lookup x =
      (names.lookup x).map fun k => if (k == NameKind.free && env.scope.kind == .function && env.kindOf x == some .cell) then NameKind.cell else k := by
  induction names with
  | nil => rfl
  | cons nk r ih =>
    obtain ⟨n, k⟩ := nk
    show List.lookup x ((if (k == NameKind.free && env.scope.kind == .function && env.kindOf n == some .cell) = true then (n, NameKind.cell) else (n, k)) :: _) = _
    cases hx : x == n with
    | true =>
      have : x = n := by simpa using hx
      subst this
      split <;> simp_all [List.lookup_cons]
    | false =>
      split <;> simp only [List.lookup_cons, hx] <;> exact ih
theorem Zc8 {l : List (Str × NameKind)} {n : Str} {k : NameKind} (h : l.lookup n = some k) : (n, k) ∈ l := mem_of_lookup h
set_option tactic.hygienic true in
theorem Zjv {nm ts : List Str} {i : Nat} {n : Str} (h : (Zdn nm ts)[i]? = some n) (hn : n.length ≠ 0) : nm[i]? = some n ∧ n ∉ ts := by
  unfold Zdn at h
  rw [List.getElem?_map, Option.map_eq_some_iff] at h
  obtain ⟨y, h1, h2⟩ := h
  split at h2
  · subst h2; exact absurd rfl hn
  · rename_i hc; subst h2; exact ⟨h1, by simpa using hc⟩
set_option tactic.hygienic true in
theorem Frm.inner {R R' : RR} {env : Env} {sc csc : Scope} {nm ts : List Str} {V : VV} {xv : List AV} {C : Addr} {m : Str → Option Value} (fr : Frm R env sc nm V) (hm : Zb6 sc csc nm ts = true) (hC : R' C = some (.ns m)) (hk : ∀ b r, R b = some r → R' b = some r)
    (hl : xv.length = ts.length) (hts : ∀ (j : Nat) t, ts[j]? = some t → ∃ a u, xv[j]? = some a ∧ m t = some u ∧ VR a u) : Frm R' (compEnvC csc (Zc0 env csc.names []) C env) csc (Zdn nm ts ++ ts) (V ++ xv.map some) := by
  unfold Zb6 at hm
  simp only [Bool.and_eq_true, Bool.not_eq_true', beq_iff_eq, List.all_eq_true, decide_eq_true_eq, bne_iff_ne, ne_eq, Bool.or_eq_true] at hm
  obtain ⟨⟨⟨⟨h1, h2⟩, h3⟩, h4⟩, h5⟩ := hm
  have hkd : ∀ n, (compEnvC csc (Zc0 env csc.names []) C env).kindOf n = (csc.names.lookup n).map fun k => if (k == NameKind.free && env.scope.kind == .function && env.kindOf n == some .cell) then NameKind.cell else k := fun n => Zht
  have hfree : ∀ n, csc.names.lookup n = some .free → env.kindOf n = some .cell ∧ ∃ i, nm[i]? = some n := fun n hn => by
    have := h5 (n, .free) (Zc8 hn)
    obtain ⟨⟨⟨_, _⟩, a⟩, _⟩ := this
    rcases a with a | ⟨⟨a, b⟩, _⟩
    · exact absurd rfl a
    · have hb : n ∈ nm := by simpa using b
      obtain ⟨i, hi, e⟩ := List.mem_iff_getElem.mp hb
      exact ⟨fr.cco n a, i, by rw [List.getElem?_eq_getElem hi, e]⟩
  have hnc : ∀ n, csc.names.lookup n ≠ some .cell := fun n hn => by
    have := h5 (n, .cell) (Zc8 hn)
    exact this.1.1.1 rfl
  have hlocal : ∀ n, csc.names.lookup n = some .local → n ∈ ts ∨ n = Str.ofString ".0" := fun n hn => by
    have := h5 (n, .local) (Zc8 hn)
    rcases this.1.1.2 with a | ⟨_, a⟩
    · exact absurd rfl a
    · simpa using a
  have hlen : ∀ n k, csc.names.lookup n = some k → n.length ≠ 0 := fun n k hn => (h5 (n, k) (Zc8 hn)).2
  have hclook : ∀ n a, (Zc0 env csc.names []).lookup n = some a → a = (env.cells.lookup n).getD 0 ∧ (n, NameKind.free) ∈ csc.names := fun n a h => by
    rcases Zp4 (mem_of_lookup h) with h | ⟨h1, h2⟩
    · cases h
    · exact ⟨h2, h1⟩
  have hcell : ∀ n, csc.names.lookup n = some .free → ∃ a, env.cells.lookup n = some a ∧ (Zc0 env csc.names []).lookup n = some a := fun n hn => by
    obtain ⟨k1, i, hi⟩ := hfree n hn
    obtain ⟨a, x, v, c1, _⟩ := fr.cell i n hi (.inl k1)
    have hmem := Zp5 (env := env) (acc := []) (Zc8 hn)
    have hs : ((Zc0 env csc.names []).lookup n).isSome = true := by
      cases q : (Zc0 env csc.names []).lookup n with
      | some => rfl
      | none => have := List.lookup_eq_none_iff.mp q _ hmem; simp at this
    obtain ⟨b, hb⟩ := Option.isSome_iff_exists.mp hs
    obtain ⟨e1, _⟩ := hclook n b hb
    rw [c1] at e1
    exact ⟨a, c1, by rw [hb, e1]; rfl⟩
  refine ⟨h1, fr.glob, fr.blt, fun id h => ?_, fun id h => ?_, fun id h => ?_, fun id h => ?_, fun id h => absurd h (hnc id), ?_, fun n n' a e e' => ?_, ⟨m, hC, fun i n hi hk' => ?_⟩, fun i n hi hk' => ?_⟩
  · rw [hkd]; unfold Zl7 at h; rw [beq_iff_eq.mp h]; rfl
  · rw [hkd]; unfold Zib at h
    split at h
    · rename_i z; rw [z]; left; rfl
    · rename_i z; exact absurd z (hnc id)
    · rename_i z; rw [z]; simp only [Option.map_some]; split <;> simp
    · cases h
  · rw [hkd]; unfold Zdm at h
    split at h
    · rename_i z; rw [z]; left; rfl
    · rename_i z; exact absurd z (hnc id)
    · cases h
  · rw [hkd, h]; rfl
  · simp only [List.length_append, List.length_map, Zdn, fr.len, hl]
  · obtain ⟨e1, f1⟩ := hclook n a e
    obtain ⟨e2, f2⟩ := hclook n' a e'
    have g1 := h5 _ f1
    have g2 := h5 _ f2
    rcases g1.1.2 with z | ⟨_, g1⟩
    · exact absurd rfl z
    rcases g2.1.2 with z | ⟨_, g2⟩
    · exact absurd rfl z
    obtain ⟨a1, c1, _⟩ := hcell n g1
    obtain ⟨a2, c2, _⟩ := hcell n' g2
    rw [c1] at e1; rw [c2] at e2
    simp only [Option.getD_some] at e1 e2
    exact fr.inj n n' a (by rw [c1, e1]) (by rw [c2, e2])
  · have hloc : csc.names.lookup n = some .local := by
      rw [hkd] at hk'
      cases q : csc.names.lookup n with
      | none => rw [q] at hk'; cases hk'
      | some k =>
        rw [q] at hk'
        simp only [Option.map_some, Option.some.injEq] at hk'
        split at hk'
        · cases hk'
        · rw [hk']
    rcases Nat.lt_or_ge i (Zdn nm ts).length with hlt | hge
    · rw [List.getElem?_append_left hlt] at hi
      obtain ⟨e1, e2⟩ := Zjv hi (hlen n _ hloc)
      rcases hlocal n hloc with z | z
      · exact absurd z e2
      · exfalso
        rw [z] at e1
        have : nm.contains (Str.ofString ".0") = true := by simpa using List.mem_of_getElem? e1
        rw [this] at h4; cases h4
    · rw [List.getElem?_append_right hge] at hi
      obtain ⟨a, u, a1, a2, a3⟩ := hts _ n hi
      refine ⟨some a, ?_, by rw [a2]; exact .some a3⟩
      have hL : (Zdn nm ts).length = V.length := by simp [Zdn, fr.len]
      rw [hL] at hge a1
      rw [List.getElem?_append_right hge, List.getElem?_map, a1]; rfl
  · have hfr : csc.names.lookup n = some .free := by
      rw [hkd] at hk'
      cases q : csc.names.lookup n with
      | none => rw [q] at hk'; rcases hk' with hk' | hk' <;> cases hk'
      | some k =>
        rw [q] at hk'
        simp only [Option.map_some, Option.some.injEq] at hk'
        split at hk'
        · rename_i z; simp only [Bool.and_eq_true, beq_iff_eq] at z; rw [z.1.1]
        · rcases hk' with hk' | hk'
          · exact absurd (q.trans (by rw [hk'])) (hnc n)
          · rw [hk']
    rcases Nat.lt_or_ge i (Zdn nm ts).length with hlt | hge
    · rw [List.getElem?_append_left hlt] at hi
      obtain ⟨e1, e2⟩ := Zjv hi (hlen n _ hfr)
      obtain ⟨k1, _⟩ := hfree n hfr
      obtain ⟨a, x, v, c1, c2, c3, c4⟩ := fr.cell i n e1 (.inl k1)
      obtain ⟨a', d1, d2⟩ := hcell n hfr
      rw [c1] at d1; cases d1
      have hlt' : i < V.length := (List.getElem?_eq_some_iff.mp c3).1
      exact ⟨a, x, v, d2, hk _ _ c2, by rw [List.getElem?_append_left hlt']; exact c3, c4⟩
    · rw [List.getElem?_append_right hge] at hi
      have := (h2 n (List.mem_of_getElem? hi)).1.1
      rw [hfr] at this; cases this
end Mine
end
section
open PySem PySem.W PyProof.Rows PySem.Spec PySem.SeqAt PySem.Calls
namespace Mine
section
variable {c : Cx} {R : RR} {H : Zaa} {A : Around} {E : Value → Shared → Prop} {s : Shared}
theorem Zty {v : AV} {k : Nat} {a : Addr} {o : Obj} {Q : Value → Shared → Prop} (hi : ItObj H v k o) (ho : s.heap.get? a = some o) (q : Q (.ref a) s) : wpAny (model c.prog c.w) A (pyIter (.ref a)) Q E s := by
  cases v with
  | ref p =>
    simp only [ItObj] at hi
    split at hi
    · exact wpAny_pyIter_listiter ⟨o, ho, hi.1, hi.2⟩ q
    · exact wpAny_pyIter_tupleiter ⟨o, ho, hi.1, hi.2⟩ q
    · subst hi; exact wpAny_pyIter_rangeiter ho q
    · exact hi.elim
  | str y =>
    obtain ⟨t, hc, hd⟩ := hi
    rcases hc with hc | hc
    · exact wpAny_pyIter_striter_ascii ⟨o, ho, hc, hd⟩ q
    · exact wpAny_pyIter_striter_wide ⟨o, ho, hc, hd⟩ q
  | none => exact hi.elim
  | bool b => exact hi.elim
  | int i => exact hi.elim
theorem St1.give {h h' : Heap} {x : Addr} {r0 : Res} {ao : AObj} (S : St1 c R H h) (hx : R x = some r0) (hs : Heap.SameBut x h h') (hni : ∀ cl es, ao ≠ .inst cl es) (ho : ∀ D, ORep c h' D x ao) : H x = none ∧ St1 c (Zca R x) (up H x ao) h' := by
  have bx : c.base.objs.size ≤ x := (S.res x _ hx).1
  obtain ⟨s1, s2, s3, D, s4⟩ := S.dropAny hx hs.extBut (by rw [hs.1]; exact S.size)
  obtain ⟨D₀, s40⟩ := S.rep
  have hHx : H x = none := by
    cases q : H x with
    | none => rfl
    | some o => have := (s40.above x o q).2; rw [hx] at this; cases this
  have hD : ∀ a cl es, H a = some (.inst cl es) → D a ≠ x := fun a cl es e z => by
    have hax : a ≠ x := fun w => by rw [w, hHx] at e; cases e
    obtain ⟨e1, ents, n, e2, _⟩ := s4.rep a _ e
    obtain ⟨p1, ents', n', p2, _⟩ := s40.rep a _ e
    rw [hs.2 a hax] at e1
    rw [p1] at e1
    have hd : D₀ a = D a := by injection e1 with e1; injection e1 with _ z; exact Option.some.inj z
    have := (s40.dict a cl es e).2.1
    rw [hd, z, hx] at this; cases this
  refine ⟨hHx, s1, s2, s3, D, ⟨fun a o e => ?_, fun a o e => ?_, fun a cl es e => ?_, fun a b cl es cl' es' e e' => ?_⟩⟩
  · by_cases q : a = x
    · subst q; rw [Zad] at e; cases e; exact ho D
    · rw [Zab q] at e; exact s4.rep a o e
  · by_cases q : a = x
    · subst q; exact ⟨abv bx, Zb2⟩
    · rw [Zab q] at e; exact s4.above a o e
  · by_cases q : a = x
    · subst q; rw [Zad] at e; cases e; exact absurd rfl (hni cl es)
    · rw [Zab q] at e
      obtain ⟨y1, y2, y3⟩ := s4.dict a cl es e
      exact ⟨y1, y2, by rw [Zab (hD a cl es e)]; exact y3⟩
  · by_cases q : a = x
    · subst q; rw [Zad] at e; cases e; exact absurd rfl (hni cl es)
    · by_cases q' : b = x
      · subst q'; rw [Zad] at e'; cases e'; exact absurd rfl (hni cl' es')
      · rw [Zab q] at e; rw [Zab q'] at e'; exact s4.inj a b cl es cl' es' e e'
end
theorem St.give {h h' : Heap} {x : Addr} {r0 : Res} {ao : AObj} (S : St c R H h) (hx : R x = some r0) (hs : Heap.SameBut x h h') (hni : ∀ cl es, ao ≠ .inst cl es) (ho : ∀ D, ORep c h' D x ao) (hb : ao.isB = false := by rfl) : H x = none ∧ St c (Zca R x) (up H x ao) h' := by
  obtain ⟨H₁, s, r⟩ := S
  obtain ⟨e, s'⟩ := s.give hx hs hni ho
  exact ⟨r.none e, _, s', r.put hb (.inl e)⟩
noncomputable def XOk (g : Gx) (sc : Scope) (nm : List Str) (x : X) (e : PySem.Expr) : Prop :=
  ∀ (A : Around) (R : RR) (V : VV) (env : Env) (e₀ : Env) (l₀ : List Env) (s0 : Shared), Ev g A R e₀ l₀ → Frm R env sc nm V → HX g A R V s0 x (eval e env) ∧ HT g A R V s0 x (isTrue e env (eval e env))
noncomputable def RC (R : RR) (a D C : Addr) (o l : Obj) (m : Str → Option Value) : RR := rup (rup (rup R a (.obj o)) D (.obj l)) C (.ns m)
theorem Zlt {g : Gx} {R : RR} {s0 : Shared} {e : Value} {s' : Shared} {P : Prop} (h : TE g R s0 (fun _ _ => False) e s') : P := by
  obtain ⟨_, _, _, _, _, _, h⟩ := h; exact h.elim
theorem Zsg {R R' : RR} {l : List Env} (h : Stk R l) (k : ∀ b r, R b = some r → R' b = some r) : Stk R' l := fun e he => by
  have F := h e he
  obtain ⟨m, hm⟩ := F.ns
  exact ⟨F.kind, F.frame, F.gen, F.co, F.blt, F.glob, m, k _ _ hm⟩
inductive Zew (g : Gx) (sc : Scope) (nm : List Str) : Option X → List PySem.Expr → Prop
  | nil : Zew g sc nm none []
  | one {x e} : XOk g sc nm x e → Zew g sc nm (some x) [e]
section
variable {g : Gx} {A : Around} {R : RR} {V : VV} {s0 : Shared} {env : Env} {mg mb : Str → Option Value} {e₀ : Env} {l₀ : List Env} {sc csc : Scope} {nm : List Str}
theorem Zqq {c : Option X} {ifs : List PySem.Expr} {H : Zaa} {s : Shared} {Q : Bool → Zaa → Prop} {E : String → Zaa → Prop} (h : Zew g sc nm c ifs) (ev : Ev g A R e₀ l₀) (fr : Frm R env sc nm V) (S : St g.c R H s.heap) (m : Sm s0 s)
    (q : wpC g c V Q E H) : wpAny (model g.c.prog g.c.w) A (forIn ifs true fun c r => if r = true then do let ok ← isTrue c env (eval c env); pure (ForInStep.yield ok) else pure (ForInStep.yield r)) (TB g R s0 Q) (TE g R s0 E) s := by
  cases h with
  | nil => exact wpAny_tests_nil ⟨H, S, m, q⟩
  | one hx =>
    rw [Zbt] at q
    refine wpAny_tests_one (wpAny_mono ((hx A R V env e₀ l₀ s0 ev fr).2 H s (fun _ b H => Q b H) E S m q) (fun b s' z => ?_) fun _ _ z => z)
    obtain ⟨v, H', S', m', q', _⟩ := z
    exact ⟨H', S', m', q'⟩
set_option tactic.hygienic true in
theorem Zqd {c : Cx} {R : RR} {H : Zaa} {A : Around} {E : Value → Shared → Prop} {env : Env} {Q : Unit → Shared → Prop} (hp : (env.scope.kind == .class || (env.scope.kind == .module && env.locals != env.globals)) = false)
    {es : List PySem.Expr} : ∀ {ts : List Str} {ys : List AV} {vs : List Value} {m : Str → Option Value} {s : Shared}, Zcz es ts = true → ts.Nodup → (∀ t ∈ ts, env.kindOf t = some .local) → VRs ys vs → ys.length = ts.length → St c (rup R env.locals (.ns m)) H s.heap →
    (∀ s' m', (∀ t, t ∉ ts → m' t = m t) → (∀ (j : Nat) t, ts[j]? = some t → ∃ a v, ys[j]? = some a ∧ m' t = some v ∧ VR a v) → St c (rup R env.locals (.ns m')) H s'.heap → Sm s s' → Q () s') → wpAny (model c.prog c.w) A (assignInOrder ((assignEach es env).map (·.2)) vs) Q E s := by
  induction es with
  | nil =>
    intro ts ys vs m s h _ _ hv hl S q
    obtain rfl : ts = [] := List.isEmpty_iff.mp h
    cases hv with
    | nil => exact wpAny_pure (q s m (fun _ _ => rfl) (fun j t h => by simp at h) S ⟨_, _, rfl⟩)
    | cons => cases hl
  | cons e r ih =>
    intro ts ys vs m s h nd hk hv hl S q
    obtain ⟨id, p, ts', rfl, rfl, h1⟩ := Zia h
    obtain ⟨nd1, nd2⟩ := List.nodup_cons.mp nd
    cases hv with
    | nil => cases hl
    | cons hv1 hvr =>
    rename_i y v ys' vs'
    show wpAny _ A (do holding vs' (assign (.Name id p) env v); assignInOrder ((assignEach r env).map (·.2)) vs') Q E s
    refine wpAny_bind (wpAny_holding (wpAny_assign_Name (wpAny_storeName_local (hk id (.head _)) (S.res _ _ Zaq).2 (fun h₃ hn3 hs₃ => ?_) hp)))
    have S3 := S.setRes (r' := .ns _) Zaq hs₃ hn3
    rw [Zku] at S3
    refine ih h1 nd2 (fun t ht => hk t (.tail _ ht)) hvr (Nat.succ.inj hl) S3 fun s' m' k1 k2 S' ms => q s' m' (fun t ht => ?_) (fun j t hj => ?_) S' (Sm.trans ⟨_, _, rfl⟩ ms)
    · simp only [List.mem_cons, not_or] at ht
      rw [k1 t ht.2]; exact if_neg ht.1
    · cases j with
      | zero =>
        cases hj
        exact ⟨y, v, rfl, by rw [k1 id nd1]; exact if_pos rfl, hv1⟩
      | succ j => exact k2 j t hj
set_option tactic.hygienic true in
theorem Zr9 {c : Cx} {R : RR} {H : Zaa} {A : Around} {E : Value → Shared → Prop} {env : Env} {Q : Unit → Shared → Prop} {mg mb : Str → Option Value} {tg : PySem.Expr} {tup : Bool} {ts : List Str} {y : AV} {u : Value} {P : List AV → Prop} {m : Str → Option Value} {s : Shared} (C : c.Ok mg mb) (hh : A.handled = none)
    (hp : (env.scope.kind == .class || (env.scope.kind == .module && env.locals != env.globals)) = false) (htg : TgN tg tup ts) (nd : ts.Nodup) (hk : ∀ t ∈ ts, env.kindOf t = some .local) (hu : VR y u) (hw : if tup then Zbi ts.length y H P else P [y])
    (S : St c (rup R env.locals (.ns m)) H s.heap)
    (q : ∀ s' m' ys, P ys → ys.length = ts.length → (∀ (j : Nat) t, ts[j]? = some t → ∃ a v, ys[j]? = some a ∧ m' t = some v ∧ VR a v) → St c (rup R env.locals (.ns m')) H s'.heap → Sm s s' → Q () s') : wpAny (model c.prog c.w) A (assign tg env u) Q E s := by
  cases htg with
  | name =>
    refine wpAny_assign_Name (wpAny_storeName_local (hk _ (.head _)) (S.res _ _ Zaq).2 (fun h₃ hn3 hs₃ => ?_) hp)
    have S3 := S.setRes (r' := .ns _) Zaq hs₃ hn3
    rw [Zku] at S3
    refine q _ _ [y] hw rfl (fun j t hj => ?_) S3 ⟨_, _, rfl⟩
    cases j with
    | zero => cases hj; exact ⟨y, u, rfl, if_pos rfl, hu⟩
    | succ j => simp at hj
  | tup h1 =>
    simp only [if_true] at hw
    have hx : ∃ p xs, y = .ref p ∧ (H p = some (.tuple xs) ∨ H p = some (.list xs)) ∧ xs.length = ts.length ∧ P xs := by
      cases y with
      | ref p =>
        dsimp only [Zbi] at hw
        split at hw
        · rename_i xs e; exact ⟨p, xs, rfl, .inl e, hw⟩
        · rename_i xs e; exact ⟨p, xs, rfl, .inr e, hw⟩
        · exact hw.elim
      | _ => exact hw.elim
    obtain ⟨p, xs, rfl, hx, hl, hP⟩ := hx
    cases hu
    obtain ⟨l1, l2⟩ := Zgo (env := env) h1
    rw [assign_Tuple]
    unfold unpack
    rw [l1, l2, ← hl]
    refine wpAny_bind (wpAny_standAt (wpAny_bind (wpAny_holding (Zi8 C hh Zaq S hx fun s₁ vs hv S₁ m₁ => ?_))))
    exact Zqd hp h1 nd hk hv hl S₁ fun s' m' _ k2 S' ms => q s' m' xs hP hl k2 S' (m₁.trans ms)
theorem Zw2 {tg : PySem.Expr} {tup : Bool} {ts : List Str} (h : TgN tg tup ts) : TgK tg := by
  cases h with
  | name => exact .inl ⟨_, _, rfl⟩
  | tup => exact .inr ⟨_, _, _, rfl⟩
theorem Zp2 {prog : Program} {w : World} {R : Result → Shared → Prop} {A : Around} {s : Shared} {elt target iter : PySem.Expr} {ifs : List PySem.Expr} {scope : Scope} {pos : Pos} {it acc : Value} {env : Env} (I : Nat → Shared → Prop)
    (turn : ∀ n s, I n s → wpAny (model prog w) A (pyNext it) (fun r s₁ => match r with
      | none => R (.ok .next) s₁
      | some v => wpAny (model prog w) A (letOwnedTupleGo target it v) (fun _ s1' => wpAny (model prog w) A (assign target env v) (fun _ s₂ =>
          wpAny (model prog w) A (forIn ifs true fun c r => if r = true then do let ok ← isTrue c env (eval c env); pure (ForInStep.yield ok) else pure (ForInStep.yield r)) (fun ok s₃ =>
            if ok = true then wpAny (model prog w) A (eval elt env) (fun x s₄ =>
              wpAny (model prog w) A (call (.builtin "list.append") [acc, x]) (fun _ s5 => ∃ m, m < n ∧ I m s5) (notedBy (model prog w) A env fun e s' => R (.error e) s') s₄) (notedBy (model prog w) A env fun e s' => R (.error e) s') s₃
            else ∃ m, m < n ∧ I m s₃) (notedBy (model prog w) A env fun e s' => R (.error e) s') s₂) (notedBy (model prog w) A env fun e s' => R (.error e) s') s1') (notedBy (model prog w) A env fun e s' => R (.error e) s') s₁) (notedBy (model prog w) A env fun e s' => R (.error e) s') s)
    (n : Nat) (h : I n s) : codeAny (model prog w) A (.compLoop (.ListComp elt [⟨target, iter, ifs, 0⟩] scope pos) 0 it acc env) R s := by
  refine codeAny_loop rfl I (fun n s hI => ?_) n h
  show wpAny _ A ((compTurn (.ListComp elt [⟨target, iter, ifs, 0⟩] scope pos) 0 it acc env).onRaise (fun x => do noteFrame x env; theTreesLotGoes x)) _ _ s
  refine wpAny_noted ?_
  rw [compTurn_list]
  refine wpAny_bind (wpAny_standAt (wpAny_bind (wpAny_mono (turn n s hI) (fun r s₁ h₁ => ?_) fun _ _ h' => h')))
  cases r with
  | none => exact wpAny_pure h₁
  | some v =>
    refine wpAny_bind (wpAny_mono h₁ (fun _ s1' h1' => ?_) fun _ _ h' => h')
    refine wpAny_bind (wpAny_mono h1' (fun _ s₂ h₂ => wpAny_bind (wpAny_mono h₂ (fun ok s₃ h₃ => ?_) fun _ _ h' => h')) fun _ _ h' => h')
    cases ok with
    | false => exact wpAny_pure ⟨rfl, h₃⟩
    | true =>
      exact wpAny_bind (wpAny_bind (wpAny_mono h₃ (fun x s₄ h₄ => wpAny_bind (wpAny_mono h₄ (fun _ s5 h₅ => wpAny_pure (wpAny_pure ⟨rfl, h₅⟩)) fun _ _ h' => h')) fun _ _ h' => h'))
inductive Zww (c : Cx) (R : RR) (s0 : Shared) (a D C : Addr) (av : AV) (l : Nat) (I : Nat → List AV → Zaa → Prop) (n : Nat) (s : Shared) : Prop
  | mk (k : Nat) (o' : Obj) (m' : Str → Option Value) (vs : List Value) (cnt : Nat) (acc : List AV) (H' : Zaa) (hn : n = l - k) (hk : k ≤ l) (it : ItObj H' av k o') (hv : VRs acc vs) (ha : acc.length ≤ k) (S : St c (RC R a D C o' (listOf vs.toArray cnt) m') H' s.heap) (m : Sm s0 s) (q : I k acc H') : Zww c R s0 a D C av l I n s
theorem Zp3 {x : X} {c : Option X} {elt iter tg : PySem.Expr} {ifs : List PySem.Expr} {tup : Bool} {ts : List Str} {pos : Pos} {a D C : Addr} {xs : List AV} {av : AV} {H₀ : Zaa} {I : Nat → List AV → Zaa → Prop} {RR' : Result → Shared → Prop} {s₁ : Shared} {o : Obj} {m₁ : Str → Option Value}
    (Ck : g.c.Ok mg mb) (htg : TgN tg tup ts) (hh : A.handled = none) (ev : Ev g A R e₀ l₀) (fr : Frm R env sc nm V) (hm : Zb6 sc csc nm ts = true) (hx : XOk g csc (Zdn nm ts ++ ts) x elt) (hc : Zew g csc (Zdn nm ts ++ ts) c ifs)
    (ha : R a = none) (hD : R D = none) (hC : R C = none) (hDa : D ≠ a) (hCa : C ≠ a) (hCD : C ≠ D) (hsv : ∀ y, av = .str y → PyData.strOk y = true)
    (hxs : Zan H₀ av = some xs) (hz : xs.length ≤ sizeLine)
    (step : ∀ k acc H', I k acc H' → Zc4 H₀ H' av ∧ ∀ y, xs[k]? = some y → if tup then Zbi ts.length y H' (fun ys => wpC g c (V ++ ys.map some) (fun b H => if b then wpX g x (V ++ ys.map some) (fun y H => I (k + 1) (acc ++ (some y).toList) H) (fun _ _ => False) H else I (k + 1) (acc ++ (none : Option AV).toList) H) (fun _ _ => False) H') else wpC g c (V ++ [some y]) (fun b H => if b then wpX g x (V ++ [some y]) (fun y H => I (k + 1) (acc ++ (some y).toList) H) (fun _ _ => False) H else I (k + 1) (acc ++ (none : Option AV).toList) H) (fun _ _ => False) H')
    (h0 : I 0 [] H₀) (ho : ItObj H₀ av 0 o) (S : St g.c (RC R a D C o (listOf #[] 0) m₁) H₀ s₁.heap) (ms : Sm s0 s₁)
    (fin : ∀ acc H' s' m', I xs.length acc H' → H' D = none → St g.c (rup R C (.ns m')) (up H' D (.list acc)) s'.heap → Sm s0 s' → RR' (.ok .next) s') :
    codeAny (model g.c.prog g.c.w) A (.compLoop (.ListComp elt [⟨tg, iter, ifs, 0⟩] csc pos) 0 (.ref a) (.ref D) (compEnvC csc (Zc0 env csc.names []) C env)) RR' s₁ := by
  have hloc : (∀ t ∈ ts, csc.names.lookup t = some .local) ∧ csc.kind = .function ∧ ts.Nodup := by
    unfold Zb6 at hm
    simp only [Bool.and_eq_true, beq_iff_eq, List.all_eq_true, decide_eq_true_eq] at hm
    exact ⟨fun t ht => (hm.1.1.1.2 t ht).1.1, hm.1.1.1.1, hm.1.1.2⟩
  have hRa : ∀ o l m, RC R a D C o l m a = some (.obj o) := fun o l m => by unfold RC; rw [Zah (Ne.symm hCa), Zah (Ne.symm hDa), Zaq]
  have hRD : ∀ o l m, RC R a D C o l m D = some (.obj l) := fun o l m => by unfold RC; rw [Zah (Ne.symm hCD), Zaq]
  have hRC : ∀ o l m, RC R a D C o l m C = some (.ns m) := fun o l m => Zaq
  have hle : ∀ o l m b r, R b = some r → RC R a D C o l m b = some r := fun o l m b r e => by
    have h1 : b ≠ a := fun z => by rw [z, ha] at e; cases e
    have h2 : b ≠ D := fun z => by rw [z, hD] at e; cases e
    have h3 : b ≠ C := fun z => by rw [z, hC] at e; cases e
    unfold RC; rw [Zah h3, Zah h2, Zah h1]; exact e
  have sa : ∀ o l m o', rup (RC R a D C o l m) a (.obj o') = RC R a D C o' l m := fun o l m o' => by
    funext b
    by_cases q : b = a
    · subst q; rw [Zaq, hRa]
    · rw [Zah q]; unfold RC
      by_cases q2 : b = C
      · subst q2; rw [Zaq, Zaq]
      · rw [Zah q2, Zah q2]
        by_cases q3 : b = D
        · subst q3; rw [Zaq, Zaq]
        · rw [Zah q3, Zah q3, Zah q, Zah q]
  have sD : ∀ o l m l', rup (RC R a D C o l m) D (.obj l') = RC R a D C o l' m := fun o l m l' => by
    funext b
    by_cases q : b = D
    · subst q; rw [Zaq, hRD]
    · rw [Zah q]; unfold RC
      by_cases q2 : b = C
      · subst q2; rw [Zaq, Zaq]
      · rw [Zah q2, Zah q2, Zah q, Zah q]
  have sC : ∀ o l m m', rup (RC R a D C o l m) C (.ns m') = RC R a D C o l m' := fun o l m m' => by
    funext b
    by_cases q : b = C
    · subst q; rw [Zaq, hRC]
    · rw [Zah q]; unfold RC; rw [Zah q, Zah q]
  refine Zp2 (Zww g.c R s0 a D C av xs.length I) ?_ xs.length
    ⟨0, o, m₁, [], 0, [], H₀, rfl, Nat.zero_le _, ho, .nil, Nat.le_refl _, S, ms, h0⟩
  rintro n s ⟨k, o', m', vs, cnt, acc, H', rfl, hk, hio, hvs, hacc, S', ms', hI⟩
  obtain ⟨hsame, hstep⟩ := step k acc H' hI
  have hxs' : Zan H' av = some xs := by
    rw [← hxs]
    cases av with
    | ref p => simp only [Zc4] at hsame; simp only [Zan, hsame]
    | _ => rfl
  cases hky : xs[k]? with
  | none =>
    have hkl : k = xs.length := by have := List.getElem?_eq_none_iff.mp hky; omega
    refine Zpc hh hxs' hky hio (hRa _ _ _) (hRC _ _ _) S' fun s₂ S2 m₂ => ?_
    have hD₂ : Zca (RC R a D C o' (listOf vs.toArray cnt) m') a D = some (.obj (listOf vs.toArray cnt)) := by rw [Za0 hDa]; exact hRD _ _ _
    obtain ⟨hd, S3⟩ := S2.give (ao := .list acc) hD₂ ⟨rfl, fun _ _ => rfl⟩ (by intro _ _ z; cases z) fun _ => ⟨vs, cnt, (S2.res _ _ hD₂).2, hvs⟩
    subst hkl
    refine fin acc H' s₂ m' hI hd (S3.weaken fun b r e => ?_) (ms'.trans m₂)
    by_cases q : b = C
    · subst q; rw [Zaq] at e; cases e; rw [Za0 hCD, Za0 hCa]; exact hRC _ _ _
    · rw [Zah q] at e
      have h1 : b ≠ a := fun z => by rw [z, ha] at e; cases e
      have h2 : b ≠ D := fun z => by rw [z, hD] at e; cases e
      rw [Za0 h2, Za0 h1]; exact hle _ _ _ _ _ e
  | some y =>
    have hlt : k < xs.length := (List.getElem?_eq_some_iff.mp hky).1
    refine Zla hxs' hky hio (hRa _ _ _) S' hsv fun s₂ u o₂ hu ho2 S2 m₂ => ?_
    rw [sa] at S2
    have hw := hstep y hky
    refine Zl0 (Zw2 htg) ho2 ((S2.res _ _ (hRa _ _ _)).2) ?_
    have hRR : RC R a D C o₂ (listOf vs.toArray cnt) m' = rup (RC R a D C o₂ (listOf vs.toArray cnt) m') (compEnvC csc (Zc0 env csc.names []) C env).locals (.ns m') := (sC _ _ _ _).symm
    rw [hRR] at S2
    refine Zr9 (P := fun ys => wpC g c (V ++ ys.map some) (fun b H => if b then wpX g x (V ++ ys.map some) (fun y H => I (k + 1) (acc ++ (some y).toList) H) (fun _ _ => False) H else I (k + 1) (acc ++ (none : Option AV).toList) H) (fun _ _ => False) H') Ck hh (by simp [compEnvC, relabel, hloc.2.1]) htg hloc.2.2 (fun t ht => lookup_relabel_local (hloc.1 t ht)) hu hw S2 fun s₃ m3 ys hw hyl hys S3 ms3 => ?_
    rw [show rup (RC R a D C o₂ (listOf vs.toArray cnt) m') (compEnvC csc (Zc0 env csc.names []) C env).locals (.ns m3) = RC R a D C o₂ (listOf vs.toArray cnt) m3 from sC _ _ _ _] at S3
    have ev' : ∀ o l m, Ev g A (RC R a D C o l m) e₀ l₀ := fun o l m => ⟨ev.aok, Zsg ev.stk (hle o l m)⟩
    have fr' : ∀ o l, Frm (RC R a D C o l m3) (compEnvC csc (Zc0 env csc.names []) C env) csc (Zdn nm ts ++ ts) (V ++ ys.map some) := fun o l =>
      fr.inner (xv := ys) hm (hRC _ _ _) (hle _ _ _) hyl hys
    refine wpAny_mono (Zqq hc (ev' _ _ _) (fr' _ _) S3 ((ms'.trans m₂).trans ms3) hw) (fun ok s₄ z => ?_) fun _ _ z => Zlt z
    obtain ⟨H₄, S4, m4, q₄⟩ := z
    cases ok with
    | false =>
      simp only [Bool.false_eq_true, if_false, Option.toList_none, List.append_nil] at q₄ ⊢
      have hs4 := (step _ _ _ q₄).1
      exact ⟨xs.length - (k + 1), by omega, k + 1, o₂, _, vs, cnt, acc, H₄, rfl, hlt, ItObj.same ho2 (by
        cases av with
        | ref p => simp only [Zc4] at hs4 hsame ⊢; rw [hs4, hsame]
        | _ => trivial), hvs, by omega, S4, m4, q₄⟩
    | true =>
      simp only [if_true] at q₄ ⊢
      refine wpAny_mono ((hx A _ _ _ e₀ l₀ s0 (ev' _ _ _) (fr' _ _)).1 H₄ s₄ _ _ S4 m4 q₄) (fun w s5 z => ?_) fun _ _ z => Zlt z
      obtain ⟨bv, H₅, hw5, S5, m5, q5⟩ := z
      have hs5 := (step _ _ _ q5).1
      have hsz : vs.length ≤ sizeLine := by have := hvs.length; omega
      refine append_at (S5.res _ _ (hRD _ _ _)).2 (fun h₆ hs₆ ho6 => ?_) (by simpa using hsz)
      have S6 := S5.setRes (r' := .obj (listOf (vs ++ [w]).toArray (cnt + 1))) (hRD _ _ _) hs₆ (by show h₆.get? D = _; rw [ho6]; simp [W.listOf])
      rw [sD] at S6
      exact ⟨xs.length - (k + 1), by omega, k + 1, o₂, _, vs ++ [w], cnt + 1, acc ++ [bv], H₅, rfl, hlt, ItObj.same ho2 (by
        cases av with
        | ref p => simp only [Zc4] at hs5 hsame ⊢; rw [hs5, hsame]
        | _ => trivial), hvs.append (.one hw5), by simp; omega, S6, m5.heap _, q5⟩
theorem Zj8 {ts : List Str} (fr : Frm R env sc nm V) (hm : Zb6 sc csc nm ts = true) : closureFor csc env = pure (Zc0 env csc.names []) := by
  refine Zi4 fun p hp hk => ?_
  unfold Zb6 at hm
  simp only [Bool.and_eq_true, Bool.not_eq_true', beq_iff_eq, List.all_eq_true, decide_eq_true_eq, bne_iff_ne, ne_eq, Bool.or_eq_true] at hm
  rcases (hm.2 p hp).1.2 with z | ⟨⟨z1, z2⟩, _⟩
  · exact absurd hk z
  · have hb : p.1 ∈ nm := by simpa using z2
    obtain ⟨i, hi, e⟩ := List.mem_iff_getElem.mp hb
    obtain ⟨a, x, v, c1, _⟩ := fr.cell i p.1 (by rw [List.getElem?_eq_getElem hi, e]) (.inl (fr.cco _ z1))
    exact ⟨a, c1⟩
theorem Zhq {ts : List Str} (hm : Zb6 sc csc nm ts = true) : csc.kind = .function ∧ (∀ y ∈ csc.names, y.2 ≠ .cell) ∧ ∀ y ∈ csc.names, y.2 = .local → csc.names.lookup y.1 = some .local := by
  unfold Zb6 at hm
  simp only [Bool.and_eq_true, Bool.not_eq_true', beq_iff_eq, List.all_eq_true, decide_eq_true_eq, bne_iff_ne, ne_eq, Bool.or_eq_true] at hm
  refine ⟨hm.1.1.1.1, fun y hy => (hm.2 y hy).1.1.1, fun y hy hk => ?_⟩
  rcases (hm.2 y hy).1.1.2 with z | z
  · exact absurd hk z
  · exact z.1
set_option tactic.hygienic true in
theorem Zii {x : X} {c : Option X} {elt iter tg : PySem.Expr} {ifs : List PySem.Expr} {tup : Bool} {ts : List Str} {pos : Pos} {xs : List AV} {av : AV} {u : Value} {H₀ : Zaa} {I : Nat → List AV → Zaa → Prop} {RR' : Value → Addr → Result → Shared → Prop} {s₁ : Shared} {E : Value → Shared → Prop}
    (Ck : g.c.Ok mg mb) (htg : TgN tg tup ts) (hh : A.handled = none) (ev : Ev g A R e₀ l₀) (fr : Frm R env sc nm V) (hm : Zb6 sc csc nm ts = true) (hx : XOk g csc (Zdn nm ts ++ ts) x elt) (hc : Zew g csc (Zdn nm ts ++ ts) c ifs)
    (hv : VR av u) (S : St g.c R H₀ s₁.heap) (ms : Sm s0 s₁) (hxs : Zan H₀ av = some xs) (hz : xs.length ≤ sizeLine) (h0 : I 0 [] H₀)
    (step : ∀ k acc H', I k acc H' → Zc4 H₀ H' av ∧ ∀ y, xs[k]? = some y → if tup then Zbi ts.length y H' (fun ys => wpC g c (V ++ ys.map some) (fun b H => if b then wpX g x (V ++ ys.map some) (fun y H => I (k + 1) (acc ++ (some y).toList) H) (fun _ _ => False) H else I (k + 1) (acc ++ (none : Option AV).toList) H) (fun _ _ => False) H') else wpC g c (V ++ [some y]) (fun b H => if b then wpX g x (V ++ [some y]) (fun y H => I (k + 1) (acc ++ (some y).toList) H) (fun _ _ => False) H else I (k + 1) (acc ++ (none : Option AV).toList) H) (fun _ _ => False) H')
    (fin : ∀ D Ca acc H' s' m', R Ca = none → I xs.length acc H' → H' D = none → St g.c (rup R Ca (.ns m')) (up H' D (.list acc)) s'.heap → Sm s0 s' → RR' (.ref D) Ca (.ok .next) s') :
    wpAny (model g.c.prog g.c.w) A (pyIter u) (fun it s₂ => wpAny (model g.c.prog g.c.w) A (newList []) (fun acc s₃ => wpAny (model g.c.prog g.c.w) A (newFunctionEnv csc env.globals (Zc0 env csc.names []) [] env.qual none .none (some env)) (fun cenv s₄ =>
      codeAny (model g.c.prog g.c.w) A (.compStart (.ListComp elt [⟨tg, iter, ifs, 0⟩] csc pos) 0 it acc { cenv with scope := relabel csc env }) (RR' acc cenv.locals) s₄) E s₃) E s₂) E s₁ := by
  obtain ⟨hkind, hcell, _⟩ := Zhq hm
  have hsv : ∀ y, av = .str y → PyData.strOk y = true := by rintro y rfl; cases hv; assumption
  refine Zpb Ck hv S hxs fun s₂ a o ha hHa ho S2 m₂ => ?_
  refine wpAny_newObj_type (wpAny_newFunctionEnv hcell (by intro y hy; simp at hy) (fun h₁ hns1 hsb1 => ?_) hkind)
  dsimp only at hns1 hsb1 ⊢
  obtain ⟨hD1, hD2, S3⟩ := S2.newRes (x := s₂.heap.objs.size) (r := .obj (listOf #[] 0)) (h' := s₂.heap.push { cls := .type "list", dict := none, data := .seq ([] : List Value).toArray }) (Nat.le_refl _) (fun _ _ z => Heap.get?_push_of_some _ z) (by rw [Heap.size_push]; omega) (Heap.get?_push_size _ rfl)
  generalize hH2 : s₂.heap.push { cls := .type "list", dict := none, data := .seq ([] : List Value).toArray } = H2 at hns1 hsb1 S3 ⊢
  obtain ⟨hC1, hC2, S4⟩ := S3.newRes (x := H2.objs.size) (r := .ns _) (h' := h₁) (Nat.le_refl _) (fun b ob z => hsb1.extBut b ob (Nat.ne_of_lt (Heap.lt_size z)) (Heap.get?_push_of_some _ z)) (by rw [hsb1.1, Heap.size_push]; omega) hns1
  generalize s₂.heap.objs.size = D at hD1 hD2 S3 S4 hC1 ⊢
  generalize H2.objs.size = Ca at hC1 hC2 S4 hns1 hsb1 ⊢
  have hDa : D ≠ a := fun z => by rw [z, Zaq] at hD1; cases hD1
  have hCD : Ca ≠ D := fun z => by rw [z, Zaq] at hC1; cases hC1
  rw [Zah hCD] at hC1
  have hCa : Ca ≠ a := fun z => by rw [z, Zaq] at hC1; cases hC1
  rw [Zah hCa] at hC1
  rw [Zah hDa] at hD1
  have loop : ∀ s₃ : Shared, s₃ = { s₂ with heap := h₁, toks := s₂.toks + ([] : List (Str × Value)).length } →
      codeAny (model g.c.prog g.c.w) A (.compLoop (.ListComp elt [⟨tg, iter, ifs, 0⟩] csc pos) 0 (.ref a) (.ref D) (compEnvC csc (Zc0 env csc.names []) Ca env)) (RR' (.ref D) Ca) s₃ := by
    rintro s₃ rfl
    exact Zp3 Ck htg hh ev fr hm hx hc ha hD1 hC1 hDa hCa hCD hsv hxs hz step h0 ho S4 ((ms.trans m₂).step _ _) fun acc H' s' m' h1 h2 h3 h4 => fin D Ca acc H' s' m' hC1 h1 h2 h3 h4
  refine codeAny_compStart_list (loop _ rfl) (Zty ho ?_ (loop _ rfl))
  refine (S4.res a (.obj o) ?_).2
  rw [Zah (Ne.symm hCa), Zah (Ne.symm hDa), Zaq]
theorem Zt4 {x it : X} {c : Option X} {elt iter tg : PySem.Expr} {ifs : List PySem.Expr} {tup : Bool} {ts : List Str} {pos : Pos} (Ck : g.c.Ok mg mb) (htg : TgN tg tup ts) (ev : Ev g A R e₀ l₀) (fr : Frm R env sc nm V) (hm : Zb6 sc csc nm ts = true)
    (hf : ∀ x, foldedSetIterable iter env x = pure x) (hit : HX g A R V s0 it (eval iter env)) (hx : XOk g csc (Zdn nm ts ++ ts) x elt) (hc : Zew g csc (Zdn nm ts ++ ts) c ifs) :
    HX g A R V s0 (.comp x ts.length tup it c) (eval (.ListComp elt [⟨tg, iter, ifs, 0⟩] csc pos) env) := fun H s Q E S m q => by
  dsimp only [Zag, Zae, Zaw, Zbm, Za9, x_ao, Zak, Za3, Zau, Zav, Za1, Zal, Zar, x_bm, Zbl, Zam, Zbg, Zch, Zap, Za7, Za4, Zbc, Zbd] at q
  obtain ⟨hmd, q⟩ := q
  rw [eval_ListComp]
  refine wpAny_comprehension_free (use := none) rfl hf (Zj8 fr hm) (Zhq hm).1 (Zhq hm).2.2 ?_
  refine wpAny_mono (hit H s _ E S m q) (fun u s₁ z => ?_) fun _ _ z => z
  obtain ⟨av, H₁, hv, S₁, m₁, xs, hxs, hz, I, hI, hstep⟩ := z
  refine Zii (I := I) (RR' := fun acc Ca => compPost (model g.c.prog g.c.w) A (TE g R s0 E) none (TQ g R s0 Q) acc Ca) Ck htg (ev.aok.hand hmd) ev fr hm hx hc hv S₁ m₁ hxs hz hI (fun k acc H' hi => ⟨(hstep k acc H' hi).1, (hstep k acc H' hi).2.2⟩) ?_
  intro D Ca acc H' s' m' hCa hi hd S' ms'
  refine ⟨m', (S'.res Ca _ Zaq).2, fun h' hs' => ?_⟩
  refine ⟨.ref D, up H' D (.list acc), .ref D, (S'.dropAny (Zaq) hs'.extBut (by rw [hs'.1]; exact S'.size)).weaken fun b r e => ?_, ms'.heap _, (hstep _ acc H' hi).2.1 rfl D hd⟩
  have hb : b ≠ Ca := fun z => by rw [z, hCa] at e; cases e
  rw [Za0 hb, Zah hb]; exact e
theorem Zrz {k v : X} {ke ve : PySem.Expr} {pos : Pos} (ev : Ev g A R e₀ l₀) (fr : Frm R env sc nm V) (hk : XOk g sc nm k ke) (hv : XOk g sc nm v ve) : HX g A R V s0 (.dict [k] [v]) (eval (.Dict [some ke] [ve] pos) env) := fun H s Q E S m q => by
  dsimp only [Zag, Zae, Zaw, Zbm, Za9, x_ao, Zak, Za3, Zau, Zav, Za1, Zal, Zar, x_bm, Zbl, Zam, Zbg, Zch, Zap, Za7, Za4, Zbc, Zbd] at q
  refine wpAny_Dict_walk (knd := strKind g.c.prog g.c.w) rfl rfl (by simp) (by simp) ?_
  obtain ⟨hR, hH, S₁⟩ := S.newRes (x := s.heap.objs.size) (r := .obj { cls := .type "dict", data := .dict #[] }) (h' := s.heap.push { cls := .type "dict", data := .dict #[] }) (Nat.le_refl _) (fun _ _ z => Heap.get?_push_of_some _ z) (by rw [Heap.size_push]; omega) (Heap.get?_push_size _ rfl)
  generalize s.heap.objs.size = d at hR hH S₁ ⊢
  generalize s.heap.push { cls := .type "dict", data := .dict #[] } = h₁ at S₁ ⊢
  have hle : ∀ b r, R b = some r → rup R d (.obj { cls := .type "dict", data := .dict #[] }) b = some r := fun b r e => by
    rw [Zah (fun z => by rw [z, hR] at e; cases e)]; exact e
  have ev' : Ev g A (rup R d (.obj { cls := .type "dict", data := .dict #[] })) e₀ l₀ := ⟨ev.aok, Zsg ev.stk hle⟩
  have fr' : Frm (rup R d (.obj { cls := .type "dict", data := .dict #[] })) env sc nm V := fr.congr fun b hb => Zah fun z => by
    rw [z] at hb; rcases hb with ⟨_, hb⟩ | ⟨_, hb⟩ <;> (rw [hR] at hb; cases hb)
  have te : ∀ {e : Value} {s' : Shared}, TE g (rup R d (.obj { cls := .type "dict", data := .dict #[] })) s0 E e s' → TE g R s0 E e s' := by
    rintro e s' ⟨a, cl, H', e1, X, ms, q⟩; exact ⟨a, cl, H', e1, X.weaken hle, ms, q⟩
  refine pairTrees_cons_walk (wpAny_mono ((hk A _ V env e₀ l₀ s0 ev' fr').1 H _ _ E S₁ (m.heap _) q) (fun kv s₂ z => ?_) fun _ _ z => te z)
  obtain ⟨ka, H₂, hka, S2, m₂, q₂⟩ := z
  refine wpAny_mono ((hv A _ V env e₀ l₀ s0 ev' fr').1 H₂ _ _ E S2 m₂ q₂) (fun vv s₃ z => ?_) fun _ _ z => te z
  obtain ⟨va, H₃, hva, S3, m3, q₃⟩ := z
  refine pairTrees_nil_walk ?_
  cases hka with
  | str ks tk hok =>
    dsimp only at q₃
    have hd3 : s₃.heap.get? d = some { cls := .type "dict", data := .dict #[] } := (S3.res d _ Zaq).2
    refine ⟨[(ks, vv)], ⟨?_, rfl, trivial⟩, ⟨_, #[], 0, hd3, ⟨rfl, rfl, rfl⟩, rfl, fun _ h => by simp at h, .nil, List.nodup_nil⟩, fun h' hd hs => ?_⟩
    · exact strKind_is _ _ ks tk
    · obtain ⟨o', es', ep, hda⟩ := hd
      obtain ⟨hn, S4⟩ := S3.give (h' := h') (ao := .dict ep [(ks, va)]) Zaq hs (by intro _ _ z; cases z) fun _ => ⟨[(ks, vv)], ⟨o', es', hda⟩, .cons hok hva .nil⟩
      refine ⟨.ref d, _, .ref d, S4.weaken fun b r e => ?_, m3.step _ _, q₃ d ep hn⟩
      have hb : b ≠ d := fun z => by rw [z, hR] at e; cases e
      rw [Za0 hb, Zah hb]; exact e
  | none => exact q₃.elim
  | bool => exact q₃.elim
  | int => exact q₃.elim
  | ref => exact q₃.elim
end
end Mine
end
section
open PySem PySem.W PyProof.Rows PySem.Spec PySem.SeqAt PySem.Calls
namespace Mine
section
variable {g : Gx} {mg mb : Str → Option Value} (C : g.c.Ok mg mb) (PO : PgOk g.c)
theorem Ze7 {sc : Scope} {nm : List Str} {xs : List X} {es : List PySem.Expr} {A : Around} {R : RR} {V : VV} {env : Env} {e₀ : Env} {l₀ : List Env} {s0 : Shared} (h : Each (fun x e => XOk g sc nm x e ∧ Zcu e = true) xs es) (ev : Ev g A R e₀ l₀) (fr : Frm R env sc nm V) :
    Ze8 g A R V s0 env xs es := by
  induction h with
  | nil => exact .nil
  | cons a _ ih => exact .cons ⟨(a.1 A R V env e₀ l₀ s0 ev fr).1, a.2⟩ ih
theorem Zr4 {sc : Scope} {nm : List Str} {xs : List X} {es : List PySem.Expr} {A : Around} {R : RR} {V : VV} {env : Env} {e₀ : Env} {l₀ : List Env} {s0 : Shared} (h : Each (fun x e => XOk g sc nm x e ∧ Zcu e = true) xs es) (ev : Ev g A R e₀ l₀) (fr : Frm R env sc nm V) :
    Each (fun x e => HX g A R V s0 x (eval e env)) xs es := by
  induction h with
  | nil => exact .nil
  | cons a _ ih => exact .cons (a.1 A R V env e₀ l₀ s0 ev fr).1 ih
theorem Zr3 {sc : Scope} {nm : List Str} {xs : List X} {es : List PySem.Expr} {A : Around} {R : RR} {V : VV} {env : Env} {e₀ : Env} {l₀ : List Env} {s0 : Shared} (h : Each (fun x e => XOk g sc nm x e ∧ Zcu e = true) xs es) (ev : Ev g A R e₀ l₀) (fr : Frm R env sc nm V) :
    Each (fun x e => HT g A R V s0 x (isTrue e env (eval e env))) xs es := by
  induction h with
  | nil => exact .nil
  | cons a _ ih => exact .cons (a.1 A R V env e₀ l₀ s0 ev fr).2 ih
theorem XOk.of {sc : Scope} {nm : List Str} {x : X} {e : PySem.Expr} (h : ∀ (A : Around) (R : RR) (V : VV) (env : Env) (e₀ : Env) (l₀ : List Env) (s0 : Shared), Ev g A R e₀ l₀ → Frm R env sc nm V → HX g A R V s0 x (eval e env))
    (he : ∀ env whole, isTrue e env whole = (do let v ← whole; standAt e.pos; holding [v] (truthy v))) : XOk g sc nm x e := fun A R V env e₀ l₀ s0 ev fr =>
  ⟨h A R V env e₀ l₀ s0 ev fr, HT.plain (h A R V env e₀ l₀ s0 ev fr) (he _ _)⟩
theorem Zf2 {iter : PySem.Expr} {env : Env} (h : Zh8 iter = true) (x : Value) : foldedSetIterable iter env x = pure x := by
  cases iter <;> first | rfl | exact Bool.noConfusion h
include C PO in
mutual
theorem sX : ∀ (x : X) (e : PySem.Expr) (top : Bool) (sc : Scope) (nm : List Str), mtX g.c.P top sc nm x e = true → XOk g sc nm x e
  | .lit v, e, top, sc, nm, h => Zhg (m := XOk g sc nm (.lit v)) h fun _ _ _ h => .of (fun _ _ _ _ _ _ _ _ _ => Zwb h) fun _ _ => rfl
  | .var i, e, top, sc, nm, h => Zrj (m := XOk g sc nm (.var i)) h fun _ _ h1 h2 h3 => .of (fun _ _ _ _ _ _ _ _ fr => Zv6 fr h1 h2 h3) fun _ _ => rfl
  | .glob n, e, top, sc, nm, h => Zl2 (m := XOk g sc nm (.glob n)) h fun _ _ h => .of (fun _ _ _ _ _ _ _ _ fr => Zt3 C PO fr h) fun _ _ => rfl
  | .bin op a b, e, top, sc, nm, h => Zrp (m := XOk g sc nm (.bin op a b)) h fun l r p h1 h2 =>
    .of (fun A R V env e₀ l₀ s0 ev fr => Zwe C ev (sX a l top sc nm h1 A R V env e₀ l₀ s0 ev fr).1 (sX b r top sc nm h2 A R V env e₀ l₀ s0 ev fr).1) fun _ _ => rfl
  | .neg a, e, top, sc, nm, h => Zrm (m := XOk g sc nm (.neg a)) h fun l p h => .of (fun A R V env e₀ l₀ s0 ev fr => Zwa (sX a l top sc nm h A R V env e₀ l₀ s0 ev fr).1) fun _ _ => rfl
  | .not a, e, top, sc, nm, h => Zrl (m := XOk g sc nm (.not a)) h fun l p h A R V env e₀ l₀ s0 ev fr => have z := sX a l top sc nm h A R V env e₀ l₀ s0 ev fr; ⟨Zv8 z.1, Zwf z.2⟩
  | .ao isAnd xs, e, top, sc, nm, h => Ztt (m := XOk g sc nm (.ao isAnd xs)) h fun vs p h A R V env e₀ l₀ s0 ev fr => have z := sXs xs vs top sc nm h; ⟨Zxt (Zr4 z ev fr), Zxu (Zr3 z ev fr)⟩
  | .cmp op a b, e, top, sc, nm, h => Zro (m := XOk g sc nm (.cmp op a b)) h fun l r p h0 h1 h2 A R V env e₀ l₀ s0 ev fr =>
    have z1 := sX a l top sc nm h1 A R V env e₀ l₀ s0 ev fr; have z2 := sX b r top sc nm h2 A R V env e₀ l₀ s0 ev fr; ⟨Zwd C ev h0 z1.1 z2.1, Zwg C ev h0 z1.1 z2.1⟩
  | .cmp2 op1 op2 a b d, e, top, sc, nm, h => Zo2 (m := XOk g sc nm (.cmp2 op1 op2 a b d)) h fun l r₁ r₂ p h0 h1 h2 h3 A R V env e₀ l₀ s0 ev fr =>
    have z1 := sX a l top sc nm h1 A R V env e₀ l₀ s0 ev fr; have z2 := sX b r₁ top sc nm h2 A R V env e₀ l₀ s0 ev fr; have z3 := sX d r₂ top sc nm h3 A R V env e₀ l₀ s0 ev fr; ⟨Zt5 C ev h0 z1.1 z2.1 z3.1, Zt8 C ev h0 z1.1 z2.1 z3.1⟩
  | .sub a i, e, top, sc, nm, h => Zl4 (m := XOk g sc nm (.sub a i)) h fun v sl p h0 h1 h2 =>
    .of (fun A R V env e₀ l₀ s0 ev fr => Zv7 C h0 (sX a v top sc nm h1 A R V env e₀ l₀ s0 ev fr).1 (sX i sl top sc nm h2 A R V env e₀ l₀ s0 ev fr).1) fun _ _ => rfl
  | .slice a lo hi st, e, top, sc, nm, h => Znb (m := XOk g sc nm (.slice a lo hi st)) h fun v l u t p q h0 h1 h2 h3 =>
    .of (fun A R V env e₀ l₀ s0 ev fr => Zry (sX a v top sc nm h0 A R V env e₀ l₀ s0 ev fr).1 (sO lo l top sc nm h1 A R V env e₀ l₀ s0 ev fr) (sO hi u top sc nm h2 A R V env e₀ l₀ s0 ev fr) (sO st t top sc nm h3 A R V env e₀ l₀ s0 ev fr)) fun _ _ => rfl
  | .attr a n, e, top, sc, nm, h => Zo4 (m := XOk g sc nm (.attr a n)) h fun v p h1 h2 => .of (fun A R V env e₀ l₀ s0 ev fr => Zt7 C PO h1 (sX a v top sc nm h2 A R V env e₀ l₀ s0 ev fr).1) fun _ _ => rfl
  | .call f xs, e, top, sc, nm, h => Zfj (m := XOk g sc nm (.call f xs)) h fun fe as p h0 h1 h2 => .of (fun _ _ _ _ _ _ _ ev fr => Zt6 C PO ev fr h0 h1 (Ze7 (sXs xs as top sc nm h2) ev fr)) fun _ _ => rfl
  | .new f xs, e, top, sc, nm, h => Zfj (m := XOk g sc nm (.new f xs)) h fun fe as p h0 h1 h2 => .of (fun _ _ _ _ _ _ _ ev fr => Zv9 C PO ev fr h0 h1 (Ze7 (sXs xs as top sc nm h2) ev fr)) fun _ _ => rfl
  | .meth a m xs, e, top, sc, nm, h => Zjt (m := XOk g sc nm (.meth a m xs)) h fun o _ as _ h1 h2 h3 h4 h5 => .of (fun A R V env e₀ l₀ s0 ev fr => Zt1 C PO ev h2 h1 h3 (sX a o top sc nm h4 A R V env e₀ l₀ s0 ev fr).1 (Ze7 (sXs xs as top sc nm h5) ev fr)) fun _ _ => rfl
  | .bm a m xs, e, top, sc, nm, h => Zjt (m := XOk g sc nm (.bm a m xs)) h fun o _ as _ h1 h2 h3 h4 h5 => .of (fun A R V env e₀ l₀ s0 ev fr => Zxs C ev h2 h1 h3 (sX a o top sc nm h4 A R V env e₀ l₀ s0 ev fr).1 (Ze7 (sXs xs as top sc nm h5) ev fr)) fun _ _ => rfl
  | .prim f xs, e, top, sc, nm, h => Zfj (m := XOk g sc nm (.prim f xs)) h fun fe as p h0 h1 h2 => .of (fun _ _ _ _ _ _ _ ev fr => Zt0 C PO ev fr h0 h1 (Ze7 (sXs xs as top sc nm h2) ev fr)) fun _ _ => rfl
  | .isinst a ty, e, top, sc, nm, h => Zrn (m := XOk g sc nm (.isinst a ty)) h fun fe x t p hs h0 h1 h2 h3 h4 => .of (fun A R V env e₀ l₀ s0 ev fr => Zpi C PO fr h0 h1 h2 h3 (sX a x top sc nm h4 A R V env e₀ l₀ s0 ev fr).1 hs) fun _ _ => rfl
  | .list xs, e, top, sc, nm, h => Zo1 (m := XOk g sc nm (.list xs)) h fun es p h1 h2 => .of (fun _ _ _ _ _ _ _ ev fr => Zt2 (Ze7 (sXs xs es top sc nm h1) ev fr) h2) fun _ _ => rfl
  | .tuple xs, e, top, sc, nm, h => Zrk (m := XOk g sc nm (.tuple xs)) h fun es k p h1 h2 => .of (fun _ _ _ _ _ _ _ ev fr => Zrx (Ze7 (sXs xs es top sc nm h1) ev fr) h2) fun _ _ => rfl
  | .dict ks vs, e, top, sc, nm, h => match ks, vs, h with
    | [], [], h => Znd (m := XOk g sc nm (.dict [] [])) h fun _ => .of (fun _ _ _ _ _ _ _ _ _ => Zr0) fun _ _ => rfl
    | [k], [v], h => Znc (m := XOk g sc nm (.dict [k] [v])) h fun ks' vs' p h1 h2 =>
      Zc7 (m := fun ks' => XOk g sc nm (.dict [k] [v]) (.Dict ks' vs' p)) h1 fun o r h1 => Zbx (m := fun r => XOk g sc nm (.dict [k] [v]) (.Dict (o :: r) vs' p)) (and2 h1).2
        (Zep (m := fun o => XOk g sc nm (.dict [k] [v]) (.Dict [o] vs' p)) (and2 h1).1 fun a ha =>
        Zc7 (m := fun vs' => XOk g sc nm (.dict [k] [v]) (.Dict [some a] vs' p)) h2 fun b r h2 => Zbx (m := fun r => XOk g sc nm (.dict [k] [v]) (.Dict [some a] (b :: r) p)) (and2 h2).2
        (.of (fun _ _ _ _ _ _ _ ev fr => Zrz ev fr (sX k a top sc nm ha) (sX v b top sc nm (and2 (and2 h2).1).1)) fun _ _ => rfl))
    | [], _ :: _, h => Zc1 (m := XOk g sc nm _) h fun _ _ _ h => Bool.noConfusion h
    | [_], [], h => Zc1 (m := XOk g sc nm _) h fun _ _ _ h => Bool.noConfusion h
    | [_], _ :: _ :: _, h => Zc1 (m := XOk g sc nm _) h fun _ _ _ h => Bool.noConfusion h
    | _ :: _ :: _, _, h => Zc1 (m := XOk g sc nm _) h fun _ _ _ h => Bool.noConfusion h
  | .comp x k tup it c, e, top, sc, nm, h => Zju (m := XOk g sc nm (.comp x k tup it c)) h fun elt tg iter ifs csc ts p htg o =>
    .of (fun A R V env e₀ l₀ s0 ev fr => o.len ▸ Zt4 C htg ev fr o.sc (Zf2 o.set) (sX it iter top sc nm o.it A R V env e₀ l₀ s0 ev fr).1 (sX x elt false _ _ o.x) (sC c ifs _ _ o.c)) fun _ _ => rfl
theorem sC : ∀ (c : Option X) (es : List PySem.Expr) (sc : Scope) (nm : List Str), mtC g.c.P sc nm c es = true → Zew g sc nm c es
  | none, es, sc, nm, h => Zbx (m := Zew g sc nm none) h .nil
  | some x, es, sc, nm, h => Ze3 (m := Zew g sc nm (some x)) h fun e h => .one (sX x e false sc nm h)
theorem sXs : ∀ (xs : List X) (es : List PySem.Expr) (top : Bool) (sc : Scope) (nm : List Str), mtXs g.c.P top sc nm xs es = true → Each (fun x e => XOk g sc nm x e ∧ Zcu e = true) xs es
  | [], es, top, sc, nm, h => Zbx (m := Each (fun x e => XOk g sc nm x e ∧ Zcu e = true) []) h .nil
  | x :: r, es, top, sc, nm, h => Zc7 (m := Each (fun x e => XOk g sc nm x e ∧ Zcu e = true) (x :: r)) h fun e q h => .cons ⟨sX x e top sc nm (and2 (and2 h).1).1, (and2 (and2 h).1).2⟩ (sXs r q top sc nm (and2 h).2)
theorem sO : ∀ (o : Option X) (e : Option PySem.Expr) (top : Bool) (sc : Scope) (nm : List Str), mtO g.c.P top sc nm o e = true →
    ∀ (A : Around) (R : RR) (V : VV) (env : Env) (e₀ : Env) (l₀ : List Env) (s0 : Shared), Ev g A R e₀ l₀ → Frm R env sc nm V → HO g A R V s0 env o e
  | none, none, top, sc, nm, h => fun _ _ _ _ _ _ _ _ _ => trivial
  | none, some _, top, sc, nm, h => Bool.noConfusion h
  | some x, none, top, sc, nm, h => Bool.noConfusion h
  | some x, some e, top, sc, nm, h => fun A R V env e₀ l₀ s0 ev fr => (sX x e top sc nm h A R V env e₀ l₀ s0 ev fr).1
end
end
end Mine
end
section
open PySem PySem.W PyProof.Rows PySem.Spec PySem.SeqAt PySem.Calls
namespace Mine
section
variable {g : Gx} {sc : Scope} {nm : List Str} {mg mb : Str → Option Value}
abbrev XMd (g : Gx) (sc : Scope) (nm : List Str) (x : X) (e : PySem.Expr) : Prop := ∀ md, XOk { g with md := md } sc nm x e
theorem Zfs {md : Bool} {R : RR} {env : Env} {V : VV} {s0 s' : Shared} {E : String → VV → Zaa → Prop} {e : Value} (fr : Frm R env sc nm V) (h : TE { g with md := md } R s0 (fun cl H => E cl V H) e s') : TX g env sc nm R s0 E e s' := by
  obtain ⟨a, cl, H', rfl, x, m, q⟩ := h
  exact ⟨a, cl, R, V, H', .none, rfl, .refl, fr, .inr (.inl rfl), x, m, q⟩
theorem TF.trans {R R' : RR} {env : Env} {s0 s' : Shared} {QN : VV → Zaa → Prop} {QR : AV → Zaa → Prop} {f : Flow} (x : RStep env R R') (h : TF g env sc nm R' s0 QN QR f s') : TF g env sc nm R s0 QN QR f s' := by
  cases f with
  | next => obtain ⟨R₂, V', H', r, k1, k2, k3, k4⟩ := h; exact ⟨R₂, V', H', x.trans r, k1, k2, k3, k4⟩
  | ret v => obtain ⟨R₂, V', H', r, k1, k2, k3, k4⟩ := h; exact ⟨R₂, V', H', x.trans r, k1, k2, k3, k4⟩
  | brk => exact h
  | cont => exact h
theorem TX.trans {R R' : RR} {env : Env} {s0 s' : Shared} {E : String → VV → Zaa → Prop} {e : Value} (x : RStep env R R') (h : TX g env sc nm R' s0 E e s') : TX g env sc nm R s0 E e s' := by
  obtain ⟨a, cl, R₂, V', H', fl, h1, r, k1, k2, k3, k4, k5⟩ := h
  exact ⟨a, cl, R₂, V', H', fl, h1, x.trans r, k1, k2, k3, k4, k5⟩
theorem Znx {v o ix : PySem.Expr} {p : Pos} {l : Nat} {env : Env} : swapsWith v (some (.Subscript o ix p)) l env = pure false := by
  cases v <;> rfl
theorem Zg1 {v : PySem.Expr} {t : Option PySem.Expr} {l : Nat} {env : Env} (h : Ze4 v = true) : swapsWith v t l env = pure false := by
  cases v <;> first | rfl | exact Bool.noConfusion h
theorem Zxc {e : X} {v : PySem.Expr} {pos : Pos} (hx : XMd g sc nm e v) : SOk g sc nm (fun g => wpS g (.ret e)) (exec (.Return (some v) pos)) := fun md A env l₀ R V s0 s H QN QR E ev fr S m q => by
  dsimp only [Zax, Za8, Zaj, Zao, Za6, Zba, Zbq, Zdf, Zcx] at q
  refine wpAny_Return_some (wpAny_mono ((hx md A R V env env l₀ s0 ev fr).1 H s _ _ S m q) (fun u s' z => ?_) fun _ _ z => Zfs fr z)
  obtain ⟨av, H', hv, S', m', q'⟩ := z
  exact ⟨R, av, H', .refl, hv, S', m', q'⟩
theorem Zu0 {pos : Pos} : SOk g sc nm (fun g => wpS g .pass) (exec (.Pass pos)) := fun md A env l₀ R V s0 s H QN QR E ev fr S m q => by
  dsimp only [Zax, Za8, Zaj, Zao, Za6, Zba, Zbq, Zdf, Zcx] at q
  exact wpAny_Pass ⟨R, V, H, .refl, fr, S, m, q⟩
theorem Zu2 {e : X} {v : PySem.Expr} {pos : Pos} (hn : Ze4 v = true) (hx : XMd g sc nm e v) : SOk g sc nm (fun g => wpS g (.expr e)) (exec (.Expr v pos)) := fun md A env l₀ R V s0 s H QN QR E ev fr S m q => by
  dsimp only [Zax, Za8, Zaj, Zao, Za6, Zba, Zbq, Zdf, Zcx] at q
  refine wpAny_Expr_any (wpAny_mono ((hx md A R V env env l₀ s0 ev fr).1 H s _ _ S m q) (fun u s' z => ?_) fun _ _ z => Zfs fr z) (by unfold interactive; rw [fr.kind]; rfl) (Zg1 hn)
  obtain ⟨av, H', hv, S', m', q'⟩ := z
  exact ⟨R, V, H', .refl, fr, S', m', q'⟩
theorem Zlr {i : Nat} {is : List Nat} {es : List PySem.Expr} (h : Zhs sc nm (i :: is) es = true) : ∃ id p r, es = .Name id p :: r ∧ nm[i]? = some id ∧ Zdm sc id = true ∧ Zhs sc nm is r = true :=
  Zc7 (m := fun es => ∃ id p r, es = .Name id p :: r ∧ nm[i]? = some id ∧ Zdm sc id = true ∧ Zhs sc nm is r = true) h fun e r h =>
    Zgz (m := fun e => ∃ id p r', e :: r = .Name id p :: r' ∧ nm[i]? = some id ∧ Zdm sc id = true ∧ Zhs sc nm is r' = true) (and2 h).1 fun id p h1 h2 => ⟨id, p, r, rfl, h1, h2, (and2 h).2⟩
theorem Zqp {env : Env} {is : List Nat} {es : List PySem.Expr} (h : Zhs sc nm is es = true) : (assignEach es env).length = is.length ∧ (assignEach es env).findIdx? (·.1) = none := by
  induction is generalizing es with
  | nil =>
    have : es = [] := by cases es with | nil => rfl | cons => cases h
    subst this; exact ⟨rfl, rfl⟩
  | cons i is ih =>
    obtain ⟨id, p, r, rfl, _, _, h4⟩ := Zlr h
    obtain ⟨i1, i2⟩ := ih h4
    exact ⟨congrArg Nat.succ i1, by show List.findIdx? _ ((false, _) :: assignEach r env) = none; rw [List.findIdx?_cons, i2]; rfl⟩
set_option tactic.hygienic true in
theorem Zqw {c : Cx} {H : Zaa} {A : Around} {E : Value → Shared → Prop} {env : Env} {Q : Unit → Shared → Prop} (nd : nm.Nodup) {is : List Nat} {es : List PySem.Expr} {xs : List AV} {vs : List Value} {R : RR} {V : VV} {s : Shared} (h : Zhs sc nm is es = true) (hv : VRs xs vs) (hl : xs.length = is.length)
    (fr : Frm R env sc nm V) (S : St c R H s.heap) (q : ∀ s' R', RStep env R R' → Frm R' env sc nm (Zhy V is xs) → St c R' H s'.heap → Sm s s' → Q () s') : wpAny (model c.prog c.w) A (assignInOrder ((assignEach es env).map (·.2)) vs) Q E s := by
  induction is generalizing es xs vs R V s with
  | nil =>
    have : es = [] := by cases es with | nil => rfl | cons => cases h
    subst this
    cases hv with
    | nil => exact wpAny_pure (q s R .refl fr S ⟨_, _, rfl⟩)
    | cons => cases hl
  | cons i is ih =>
    obtain ⟨id, p, r, rfl, h2, h3, h4⟩ := Zlr h
    cases hv with
    | nil => cases hl
    | cons hv1 hvr =>
    rename_i y v ys' vs'
    show wpAny _ A (do holding vs' (assign (.Name id p) env v); assignInOrder ((assignEach r env).map (·.2)) vs') Q E s
    refine wpAny_bind (wpAny_holding (wpAny_assign_Name (Zft fr nd h2 h3 hv1 S fun s₁ R₁ r₁ f₁ S₁ m₁ => ?_)))
    exact ih h4 hvr (Nat.succ.inj hl) f₁ S₁ fun s' R' r' f' S' m' => q s' R' (r₁.trans r') f' S' (m₁.trans m')
theorem Zse {is : List Nat} {e : PySem.Expr} (h : Zs3 sc nm is e = true) : ∃ es k p, e = .Tuple es k p ∧ Zhs sc nm is es = true :=
  Zhe (m := fun e => ∃ es k p, e = .Tuple es k p ∧ Zhs sc nm is es = true) h fun es k p h => ⟨es, k, p, rfl, h⟩
set_option tactic.hygienic true in
theorem Zw1 {k : Nat} {y : AV} {H : Zaa} {P : List AV → Prop} (hw : Zbi k y H P) : ∃ p xs, y = .ref p ∧ (H p = some (.tuple xs) ∨ H p = some (.list xs)) ∧ xs.length = k ∧ P xs := by
  cases y with
  | ref p =>
    simp only [Zbi] at hw
    split at hw
    · rename_i xs e; exact ⟨p, xs, rfl, .inl e, hw⟩
    · rename_i xs e; exact ⟨p, xs, rfl, .inr e, hw⟩
    · exact hw.elim
  | _ => exact hw.elim
theorem Zuw {c : Cx} {H : Zaa} {A : Around} {E : Value → Shared → Prop} {env : Env} {Q : Unit → Shared → Prop} {mg mb : Str → Option Value} {is : List Nat} {e : PySem.Expr} {x : AV} {u : Value} {R : RR} {V : VV} {s : Shared} {P : List AV → Prop} (C : c.Ok mg mb) (hh : A.handled = none) (nd : nm.Nodup) (h : Zs3 sc nm is e = true) (hv : VR x u)
    (hw : Zbi is.length x H P) (fr : Frm R env sc nm V) (S : St c R H s.heap) (q : ∀ s' R' xs, P xs → RStep env R R' → Frm R' env sc nm (Zhy V is xs) → St c R' H s'.heap → Sm s s' → Q () s') : wpAny (model c.prog c.w) A (assign e env u) Q E s := by
  obtain ⟨es, k, pp, rfl, h⟩ := Zse h
  obtain ⟨p, xs, rfl, hx, hl, hP⟩ := Zw1 hw
  cases hv
  obtain ⟨l1, l2⟩ := Zqp (env := env) h
  obtain ⟨mL, hL, _⟩ := fr.ns
  rw [assign_Tuple]
  unfold unpack
  rw [l1, l2, ← hl]
  refine wpAny_bind (wpAny_standAt (wpAny_bind (wpAny_holding (Zi8 C hh hL S hx fun s₁ vs hvs S₁ m₁ => ?_))))
  exact Zqw nd h hvs hl fr S₁ fun s' R' r' f' S' m' => q s' R' xs hP r' f' S' (m₁.trans m')
theorem Zw5 {c : Cx} {H : Zaa} {A : Around} {E : Value → Shared → Prop} {env : Env} {Q : Unit → Shared → Prop} {mg mb : Str → Option Value} {t : Tg} {e : PySem.Expr} {x : AV} {u : Value} {R : RR} {V : VV} {s : Shared} {P : VV → Prop} (C : c.Ok mg mb) (hh : A.handled = none) (nd : nm.Nodup) (h : tgOk sc nm t e = true) (hv : VR x u)
    (hw : wtg t x V H P) (fr : Frm R env sc nm V) (S : St c R H s.heap) (q : ∀ s' R' V', P V' → RStep env R R' → Frm R' env sc nm V' → St c R' H s'.heap → Sm s s' → Q () s') : wpAny (model c.prog c.w) A (assign e env u) Q E s := by
  cases t with
  | var i =>
    exact Zgz (m := fun e => wpAny (model c.prog c.w) A (assign e env u) Q E s) h fun _ _ h1 h2 => wpAny_assign_Name (Zft fr nd h1 h2 hv S fun s' R' r' f' S' m' => q s' R' _ hw.2 r' f' S' m')
  | tup is => exact Zuw C hh nd h hv hw fr S fun s' R' xs hP r' f' S' m' => q s' R' _ hP r' f' S' m'
theorem Zmv {i : Nat} {e : X} {tg v : PySem.Expr} {pos : Pos} (nd : nm.Nodup) (hn : Ze4 v = true) (ht : Zmr sc nm i tg = true) (hx : XMd g sc nm e v) : SOk g sc nm (fun g => wpS g (.assign (.var i) e)) (exec (.Assign [tg] v pos)) :=
  fun md A env l₀ R V s0 s H QN QR E ev fr S m q => by
  dsimp only [Zax, Za8, Zaj, Zao, Za6, Zba, Zbq, Zdf, Zcx, tv, tsub, tattr, ttup] at q
  refine Zgz (m := fun tg => wpAny (model g.c.prog g.c.w) A (exec (.Assign [tg] v pos) env) (TF g env sc nm R s0 QN QR) (TX g env sc nm R s0 E) s) ht fun id p h1 h2 => ?_
  refine wpAny_Assign_Name (wpAny_mono ((hx md A R V env env l₀ s0 ev fr).1 H s _ _ S m q) (fun u s₁ z => ?_) fun _ _ z => Zfs fr z) (Zg1 hn)
  obtain ⟨av, H', hv, S', m', _, q'⟩ := z
  exact Zft fr nd h1 h2 hv S' fun s₂ R' r f' S2 m₂ => ⟨R', _, H', r, f', S2, m'.trans m₂, q'⟩
theorem Frm.drop {R R' : RR} {env : Env} {V V' : VV} {Ca : Addr} (f : Frm R' env sc nm V') (fr : Frm R env sc nm V) (hCa : R Ca = none) : Frm (Zca R' Ca) env sc nm V' := by
  obtain ⟨k1, k2, k3, k4, k5, k6, k7, kc, kl, k8, ⟨m, n1, n2⟩, k9⟩ := f
  obtain ⟨m', n1', _⟩ := fr.ns
  refine ⟨k1, k2, k3, k4, k5, k6, k7, kc, kl, k8, ⟨m, by rw [Za0 (fun z => by rw [z, hCa] at n1'; cases n1')]; exact n1, n2⟩, fun i n hn hk => ?_⟩
  obtain ⟨a, x, v, c1, c2, c3⟩ := k9 i n hn hk
  obtain ⟨a', x', v', c1', c2', c3'⟩ := fr.cell i n hn hk
  rw [c1] at c1'; cases c1'
  exact ⟨a, x, v, c1, by rw [Za0 (fun z => by rw [z, hCa] at c2'; cases c2')]; exact c2, c3⟩
theorem RStep.drop {env : Env} {R R' : RR} {a : Addr} (x : RStep env R R') : RStep env (Zca R a) (Zca R' a) := fun b => by
  by_cases z : b = a
  · subst z; left; rw [Zb2, Zb2]
  · rw [Za0 z, Za0 z]; exact x b
theorem Zks {i : Nat} {x it : X} {c : Option X} {tg ctg elt iter : PySem.Expr} {ifs : List PySem.Expr} {tup : Bool} {ts : List Str} {csc : Scope} {pos spos : Pos} (C : g.c.Ok mg mb) (htg : TgN ctg tup ts) (nd : nm.Nodup) (ht : Zmr sc nm i tg = true) (hm : Zb6 sc csc nm ts = true)
    (hf : Zh8 iter = true) (hit : XMd g sc nm it iter) (hx : ∀ md, XOk { g with md := md } csc (Zdn nm ts ++ ts) x elt) (hc : ∀ md, Zew { g with md := md } csc (Zdn nm ts ++ ts) c ifs)
    (hcm : XMd g sc nm (.comp x ts.length tup it c) (.ListComp elt [⟨ctg, iter, ifs, 0⟩] csc pos)) : SOk g sc nm (fun g => wpS g (.assign (.var i) (.comp x ts.length tup it c))) (exec (.Assign [tg] (.ListComp elt [⟨ctg, iter, ifs, 0⟩] csc pos) spos)) :=
  fun md A env l₀ R V s0 s H QN QR E ev fr S m q => by
  dsimp only [Zax, Za8, Zaj, Zao, Za6, Zba, Zbq, Zdf, Zcx, tv, tsub, tattr, ttup] at q
  refine Zgz (m := fun tg => wpAny (model g.c.prog g.c.w) A (exec (.Assign [tg] (.ListComp elt [⟨ctg, iter, ifs, 0⟩] csc pos) spos) env) (TF g env sc nm R s0 QN QR) (TX g env sc nm R s0 E) s) ht fun id p h1 h2 => ?_
  obtain ⟨b, hsw⟩ : ∃ b, swapsWith (.ListComp elt [⟨ctg, iter, ifs, 0⟩] csc pos) (some (.Name id p)) spos.line env = pure b := ⟨_, rfl⟩
  cases b with
  | false =>
    refine wpAny_Assign_Name (wpAny_mono ((hcm md A R V env env l₀ s0 ev fr).1 H s _ _ S m q) (fun u s₁ z => ?_) fun _ _ z => Zfs fr z) hsw
    obtain ⟨av, H', hv, S', m', _, q'⟩ := z
    exact Zft fr nd h1 h2 hv S' fun s₂ R' r f' S2 m₂ => ⟨R', _, H', r, f', S2, m'.trans m₂, q'⟩
  | true =>
    dsimp only [Zag, Zae, Zaw, Zbm, Za9, x_ao, Zak, Za3, Zau, Zav, Za1, Zal, Zar, x_bm, Zbl, Zam, Zbg, Zch, Zap, Za7, Za4, Zbc, Zbd] at q
    obtain ⟨hmd, q⟩ := q
    rw [exec_Assign_Name_used _ _ _ _ hsw]
    refine wpAny_bind (wpAny_standAt (wpAny_bind ?_))
    show wpAny _ A (do let _ ← comprehension (.ListComp elt [⟨ctg, iter, ifs, 0⟩] csc pos) csc env _ (newList []) false (eval iter env) (some (assign (.Name id p) env))) _ _ s
    refine wpAny_bind (wpAny_mono (wpAny_comprehension_free (use := some (assign (.Name id p) env)) (Q := fun _ s' => TF g env sc nm R s0 QN QR .next s') rfl (Zf2 hf) (Zj8 fr hm) (Zhq hm).1 (Zhq hm).2.2 ?_)
      (fun _ s' hq => wpAny_pure (wpAny_pure hq)) fun _ _ e => e)
    refine wpAny_mono ((hit md A R V env env l₀ s0 ev fr).1 H s _ (fun cl H => E cl V H) S m q) (fun u s₁ z => ?_) fun _ _ z => Zfs fr z
    obtain ⟨av, H₁, hv, S₁, m₁, xs, hxs, hz, I, hI, hstep⟩ := z
    refine Zii (g := { g with md := md }) (I := I) (RR' := fun acc Ca => compPost (model g.c.prog g.c.w) A (TX g env sc nm R s0 E) (some (assign (.Name id p) env)) (fun _ s' => TF g env sc nm R s0 QN QR .next s') acc Ca) C htg (ev.aok.hand hmd) ev fr hm (hx md) (hc md) hv S₁ m₁ hxs hz hI (fun k acc H' hi => ⟨(hstep k acc H' hi).1, (hstep k acc H' hi).2.2⟩) ?_
    intro D Ca acc H' s' m' hCa hi hd S' ms'
    have f₁ : Frm (rup R Ca (.ns m')) env sc nm V := fr.congr fun b hb => Zah fun z => by
      rw [z] at hb; rcases hb with ⟨_, hb⟩ | ⟨_, hb⟩ <;> (rw [hCa] at hb; cases hb)
    show wpAny _ A (assign (.Name id p) env (.ref D)) _ _ _
    refine wpAny_assign_Name (Zft f₁ nd h1 h2 (.ref D) S' fun s₂ R' r f' S2 m₂ => ?_)
    obtain ⟨m'', hm''⟩ := r.ns Zaq
    refine ⟨m'', (S2.res Ca _ hm'').2, fun h' hs' => ?_⟩
    have hRR : Zca (rup R Ca (.ns m')) Ca = R := by
      funext b
      by_cases z : b = Ca
      · subst z; rw [Zb2, hCa]
      · rw [Za0 z, Zah z]
    have rd := r.drop (a := Ca)
    rw [hRR] at rd
    exact ⟨Zca R' Ca, _, _, rd, f'.drop fr hCa, S2.dropAny hm'' hs'.extBut (by rw [hs'.1]; exact S2.size), (ms'.trans m₂).heap _, ((hstep _ acc H' hi).2.1 rfl D hd).2⟩
theorem s_if {c : X} {a b : List S} {t : PySem.Expr} {x y : List Stmt} {pos : Pos} (hc : XMd g sc nm c t) (ha : SOk g sc nm (fun g => wpSs g a) (execs x)) (hb : SOk g sc nm (fun g => wpSs g b) (execs y)) :
    SOk g sc nm (fun g => wpS g (.ite c a b)) (exec (.If t x y pos)) := fun md A env l₀ R V s0 s H QN QR E ev fr S m q => by
  dsimp only [Zax, Za8, Zaj, Zao, Za6, Zba, Zbq, Zdf, Zcx] at q
  refine wpAny_If (wpAny_mono ((hc md A R V env env l₀ s0 ev fr).2 H s (fun _ t H => if t then wpSs { g with md := md } a QN QR E V H else wpSs { g with md := md } b QN QR E V H) (fun cl H => E cl V H) S m q) (fun u s' z => ?_) fun _ _ z => Zfs fr z)
  obtain ⟨v, H', S', m', q', _⟩ := z
  cases u with
  | true => exact ha md A env l₀ R V s0 s' H' QN QR E ev fr S' m' (by simpa using q')
  | false => exact hb md A env l₀ R V s0 s' H' QN QR E ev fr S' m' (by simpa using q')
theorem Zux : SOk g sc nm (fun g => wpSs g []) (execs []) := fun md A env l₀ R V s0 s H QN QR E ev fr S m q => by
  dsimp only [Zdq, Zas] at q
  exact wpAny_execs_nil ⟨R, V, H, .refl, fr, S, m, q⟩
theorem Zs9 {st : S} {r : List S} {t : Stmt} {u : List Stmt} (h : SOk g sc nm (fun g => wpS g st) (exec t)) (hr : SOk g sc nm (fun g => wpSs g r) (execs u)) : SOk g sc nm (fun g => wpSs g (st :: r)) (execs (t :: u)) :=
  fun md A env l₀ R V s0 s H QN QR E ev fr S m q => by
  dsimp only [Zdq, Zas] at q
  refine wpAny_execs_cons (wpAny_mono (h md A env l₀ R V s0 s H _ QR E ev fr S m q) (fun f s' z => ?_) fun _ _ z => z)
  cases f with
  | next =>
    obtain ⟨R', V', H', r', f', S', m', q'⟩ := z
    exact wpAny_mono (hr md A env l₀ R' V' s0 s' H' QN QR E (ev.step r') f' S' m' q') (fun _ _ z => z.trans r') fun _ _ z => z.trans r'
  | ret v => exact z
  | brk => exact z
  | cont => exact z
set_option tactic.hygienic true in
theorem Zp7 {M : Model} {A : Around} {env : Env} {R : RR} {H : Zaa} {a : Addr} {cl : String} {s : Shared} {E : Value → Shared → Prop} (hf : env.frame = some env.locals) (X : ExcSt g.c R H a cl (rawInt env.locals) s.heap)
    (q : ∀ h', ExcSt g.c R H a cl (rawInt env.locals) h' → E (.ref a) { s with heap := h' }) : cameBackBy M A env E (.ref a) s := by
  unfold cameBackBy
  have X' := X
  obtain ⟨H₁, ⟨st, re, he, be, ob, kn⟩, _⟩ := X'
  cases ob with
  | traced h1 h2 h3 h4 h5 h6 h7 h8 h9 h10 h11 h12 h13 =>
    rename_i oe vs T oT ts a0
    refine wpAny_bind (wpAny_field h1 h3 h5 ?_)
    rw [if_neg (show ¬ ((Value.ref T == Value.none) = true) from by simp)]
    rw [hf]
    exact Zes X (by simp [rawInt]) fun h' X2 => q h' X2
theorem Zfy {md : Bool} {A : Around} {env : Env} {l₀ : List Env} {R : RR} {s0 s : Shared} {E : String → VV → Zaa → Prop} {e : Value} {M : Model} (ev : Ev { g with md := md } A R env l₀) (h : TX g env sc nm R s0 E e s) :
    notedBy M A env (fun e s' => cameBackBy M A env (TX g env sc nm R s0 E) e s') e s := by
  obtain ⟨a, cl, R', V', H', fl, rfl, r, fr, hfl, X, m, q⟩ := h
  refine Zml ev.aok.frames (r.stk ev.stk) X hfl fun h₁ X1 => ?_
  refine Zp7 (g := g) (s := { s with heap := h₁ }) (ev.stk env (.head _)).frame X1 fun h₂ X2 => ?_
  exact ⟨a, cl, R', V', H', _, rfl, r, fr, .inr (.inr rfl), X2, m.trans ⟨_, _, rfl⟩, q⟩
theorem Zta {c : X} {b : List S} {t : PySem.Expr} {x : List Stmt} {pos : Pos} (hc : XMd g sc nm c t) (hb : SOk g sc nm (fun g => wpSs g b) (execs x)) : SOk g sc nm (fun g => wpS g (.while c b)) (exec (.While t x [] pos)) :=
  fun md A env l₀ R V s0 s H QN QR E ev fr S m q => by
  dsimp only [Zbq, Zqi] at q
  obtain ⟨_, I, ⟨n, hI⟩, hstep⟩ := q
  refine wpAny_While (codeAny_whileLoop (fun n s => ∃ R' V' H', RStep env R R' ∧ Frm R' env sc nm V' ∧ St g.c R' H' s.heap ∧ Sm s0 s ∧ I n V' H') ?_ n ⟨R, V, H, .refl, fr, S, m, hI⟩)
  rintro n s₁ ⟨R', V', H', r, f', S', m', hi⟩
  have ev' := ev.step r
  refine wpAny_mono ((hc md A R' V' env env l₀ s0 ev' f').2 H' s₁ (fun _ b1 H'' => if b1 then wpSs { g with md := md } b (fun V2 H₂ => ∃ m, m < n ∧ I m V2 H₂) QR E V' H'' else QN V' H'') (fun cl H => E cl V' H) S' m' (hstep n V' H' hi)) (fun u s₂ z => ?_) fun _ _ z => Zfy ev (TX.trans r (Zfs f' z))
  obtain ⟨v, H₂, S2, m₂, q₂, _⟩ := z
  cases u with
  | true =>
    dsimp only [if_true] at q₂ ⊢
    refine wpAny_mono (hb md A env l₀ R' V' s0 s₂ H₂ _ QR E ev' f' S2 m₂ q₂) (fun fl s₃ z => ?_) fun _ _ z => Zfy ev (TX.trans r z)
    cases fl with
    | next =>
      obtain ⟨R₃, V3, H₃, r₃, f₃, S3, m3, k, hk, q₃⟩ := z
      exact ⟨k, hk, R₃, V3, H₃, r.trans r₃, f₃, S3, m3, q₃⟩
    | ret v => exact TF.trans r z
    | brk => exact z.elim
    | cont => exact z.elim
  | false =>
    dsimp only [Bool.false_eq_true, if_false] at q₂ ⊢
    exact wpAny_execs_nil ⟨R', V', H₂, r, f', S2, m₂, q₂⟩
theorem tg_k {t : Tg} {tg : PySem.Expr} (ht : tgOk sc nm t tg = true) : TgK tg := by
  cases t with
  | var i => exact Zgz (m := TgK) ht fun id p _ _ => .inl ⟨id, p, rfl⟩
  | tup is => obtain ⟨es, k, p, rfl, _⟩ := Zse ht; exact .inr ⟨es, k, p, rfl⟩
inductive ForI (c : Cx) (env : Env) (sc : Scope) (nm : List Str) (R : RR) (s0 : Shared) (a : Addr) (av : AV) (l : Nat) (I : Nat → VV → Zaa → Prop) (n : Nat) (s : Shared) : Prop
  | mk (k : Nat) (R' : RR) (V' : VV) (H' : Zaa) (o' : Obj) (hn : n = l - k) (hk : k ≤ l) (hR : R' a = some (.obj o')) (it : ItObj H' av k o') (r : RStep env R (Zca R' a)) (f : Frm R' env sc nm V') (S : St c R' H' s.heap) (m : Sm s0 s) (q : I k V' H') : ForI c env sc nm R s0 a av l I n s
set_option tactic.hygienic true in
theorem Zxf {t : Tg} {it : X} {b : List S} {tg iter : PySem.Expr} {x : List Stmt} {pos : Pos} (C : g.c.Ok mg mb) (nd : nm.Nodup) (hn : Zh8 iter = true) (ht : tgOk sc nm t tg = true) (hi : XMd g sc nm it iter) (hb : SOk g sc nm (fun g => wpSs g b) (execs x)) :
    SOk g sc nm (fun g => wpS g (.for t it b)) (exec (.For tg iter x [] pos)) := fun md A env l₀ R V s0 s H QN QR E ev fr S m q => by
  dsimp only [Zax, Za8, Zaj, Zao, Za6, Zba, Zbq, Zdf, Zcx] at q
  obtain ⟨hmd, q⟩ := q
  subst hmd
  · refine wpAny_For (wpAny_mono ((hi true A R V env env l₀ s0 ev fr).1 H s _ (fun cl H => E cl V H) S m q) (fun u s₁ z => ?_) fun _ _ z => Zfs fr z) (Zf2 hn)
    obtain ⟨av, H₁, hv, S₁, m₁, xs, hxs, I, hI, hstep⟩ := z
    refine Zpb C hv S₁ hxs fun s₂ a o ha hHa ho S2 m₂ => ?_
    have hsv : ∀ y, av = .str y → PyData.strOk y = true := by rintro y rfl; cases hv; assumption
    have hna : ∀ b, (∃ m, R b = some (.ns m)) ∨ (∃ x, R b = some (.cell x)) → b ≠ a := by rintro b (⟨m, h⟩ | ⟨m, h⟩) rfl <;> (rw [ha] at h; cases h)
    have ft : Frm (rup R a (.obj o)) env sc nm V := fr.congr fun b hb => Zah (hna b hb)
    refine codeAny_forLoop_any (ForI g.c env sc nm R s0 a av xs.length I) ?_ xs.length
      ⟨0, rup R a (.obj o), V, H₁, o, by lia, Nat.zero_le _, Zaq, ho, fun b => .inl ?_, ft, S2, m₁.trans m₂, hI⟩
    · rintro n s₃ ⟨k, R', V', H', o', hn', hk, hR', hit, hrs, f', S', m', hi'⟩
      obtain ⟨hsame, hend, hturn⟩ := hstep k V' H' hi'
      have hxs' : Zan H' av = some xs := by
        rw [← hxs]
        cases av with
        | ref a' => simp only [Zc4] at hsame; dsimp only [Zan]; rw [hsame]
        | _ => rfl
      have hdrop : ∀ R₂ : RR, RStep env R (Zca R₂ a) → Stk R₂ (env :: l₀) := fun R₂ r e he => by
        have F := ev.stk e he
        obtain ⟨mm, hm⟩ := F.ns
        obtain ⟨m', hm'⟩ := r.ns hm
        exact ⟨F.kind, F.frame, F.gen, F.co, F.blt, F.glob, m', Zem _ _ hm'⟩
      have evd : ∀ R₂ : RR, RStep env R (Zca R₂ a) → Ev { g with md := true } A R₂ env l₀ := fun R₂ r => ⟨ev.aok, hdrop R₂ r⟩
      have frd : ∀ {R₂ : RR} {V2 : VV} {o₂ : Obj}, R₂ a = some (.obj o₂) → Frm R₂ env sc nm V2 → Frm (Zca R₂ a) env sc nm V2 := fun {R₂ V2 o₂} h f => f.congr fun b hb => Za0 fun z => by
        rw [z, h] at hb; rcases hb with ⟨_, hb⟩ | ⟨_, hb⟩ <;> cases hb
      have fin : ∀ {e : Value} {s' : Shared} {R₂ : RR} {o₂ : Obj}, R₂ a = some (.obj o₂) → RStep env R (Zca R₂ a) → TX g env sc nm R₂ s0 E e s' → TX g env sc nm R s0 E e s' := by
        rintro e s' R₂ o₂ h r ⟨b, cl, R₃, V3, H₃, fl, e1, r₃, f₃, hfl, X, m, q⟩
        exact ⟨b, cl, Zca R₃ a, V3, H₃, fl, e1, r.trans r₃.drop, frd (r₃.obj h) f₃, hfl, X.weaken Zem, m, q⟩
      rcases Nat.lt_or_ge k xs.length with hlt | hge
      · obtain ⟨xv, hx⟩ : ∃ xv, xs[k]? = some xv := ⟨xs[k], by simp [hlt]⟩
        refine Zla hxs' hx hit hR' S' hsv fun s₄ u4 o₂ hvx ho2 S4 m4 => ?_
        have r₄ : RStep env R (Zca (rup R' a (.obj o₂)) a) := by
          have : Zca (rup R' a (.obj o₂)) a = Zca R' a := by
            funext b
            by_cases z : b = a
            · subst z; rw [Zb2, Zb2]
            · rw [Za0 z, Za0 z, Zah z]
          rw [this]; exact hrs
        have f₄ : Frm (rup R' a (.obj o₂)) env sc nm V' := f'.congr fun b hb => Zah fun z => by
          rw [z, hR'] at hb; rcases hb with ⟨_, hb⟩ | ⟨_, hb⟩ <;> cases hb
        have hst := hturn xv hx
        refine Zl0 (tg_k ht) ho2 ((S4.res _ _ Zaq).2) ?_
        refine Zw5 C (ev.aok.hand rfl) nd ht hvx hst f₄ S4 fun s5 R₅ V5 hst r₅ f₅ S5 m5 => ?_
        have h₅ := r₅.obj (Zaq (R := R'))
        have rr := r₄.trans r₅.drop
        refine wpAny_mono (hb true A env l₀ R₅ _ s0 s5 H' _ QR E (evd R₅ rr) f₅ S5 ((m'.trans m4).trans m5) hst) (fun fl s6 z => ?_) fun _ _ z => Zfy ev (fin h₅ rr z)
        cases fl with
        | next =>
          obtain ⟨R₆, V6, H₆, r₆, f₆, S6, m6, q6⟩ := z
          refine ⟨xs.length - (k + 1), by lia, k + 1, R₆, V6, H₆, o₂, rfl, by lia, r₆.obj h₅, ?_, rr.trans r₆.drop, f₆, S6, m6, q6⟩
          have hs6 := (hstep (k + 1) V6 H₆ q6).1
          cases av with
          | ref a' =>
            simp only [Zc4] at hsame hs6
            exact ho2.same (by simp only [Zc4]; rw [hs6, hsame])
          | str y => exact ho2
          | _ => exact ho2
        | ret v =>
          obtain ⟨R₆, av6, H₆, r₆, hv6, S6, m6, q6⟩ := z
          exact ⟨Zca R₆ a, av6, H₆, rr.trans r₆.drop, hv6, S6.weaken Zem, m6, q6⟩
        | brk => exact z.elim
        | cont => exact z.elim
      · obtain ⟨mm, hmm, _⟩ := f'.ns
        refine Zpc (ev.aok.hand rfl) hxs' (by simp; lia) hit hR' hmm S' fun s₄ S4 m4 => ?_
        exact wpAny_execs_nil ⟨Zca R' a, V', H', hrs, frd hR' f', S4, m'.trans m4, hend (by lia)⟩
    · by_cases z : b = a
      · subst z; rw [Zb2, ha]
      · rw [Za0 z, Zah z]
end
end Mine
end
section
end
section
open PySem PySem.W PyProof.Rows PySem.Spec PySem.SeqAt PySem.Calls
namespace Mine
section
variable {g : Gx} {sc : Scope} {nm : List Str} {mg mb : Str → Option Value}
set_option tactic.hygienic true in
theorem DRs.store {es : List (Str × AV)} {kvs : List (Str × Value)} (h : DRs es kvs) {k : Str} {x : AV} {u : Value} (hk : PyData.strOk k = true) (hv : VR x u) : DRs (putS es k x) (stored kvs k u) := by
  have ha : (Zb0 es k).isSome = kvs.any (fun kv => kv.1 = k) := by
    induction h with
    | nil => rfl
    | cons h1 h2 _ ih =>
      unfold Zb0 at ih ⊢
      rw [List.find?_cons, List.any_cons]
      split
      · rename_i z; simp at z; simp [z]
      · rename_i z; simp at z; rw [ih]; simp [z]
  unfold putS stored
  rw [ha]
  split
  · clear ha
    rename_i z; clear z
    induction h with
    | nil => exact .nil
    | cons h1 h2 _ ih =>
      rename_i k' a v as vs _
      simp only [List.map_cons]
      by_cases z : k' = k
      · simp only [z, if_true]; exact .cons hk hv ih
      · simp only [z, if_false]; exact .cons h1 h2 ih
  · clear ha
    rename_i z; clear z
    induction h with
    | nil => exact .cons hk hv .nil
    | cons h1 h2 _ ih => exact .cons h1 h2 ih
theorem Zn2 {A : Around} {R : RR} {H : Zaa} {s s0 : Shared} {E : Value → Shared → Prop} {p : Addr} {k : Str} {t : Tok} {ep : Nat} {es : List (Str × AV)} {x : AV} {u : Value} {Q : Unit → Shared → Prop} (hv : VR x u) (hk : PyData.strOk k = true) (e : H p = some (.dict ep es)) (hz : es.length ≤ sizeLine)
    (S : St g.c R H s.heap) (m : Sm s0 s) (q : ∀ s' ep', St g.c R (up H p (.dict ep' (putS es k x))) s'.heap → Sm s0 s' → Q () s') : wpAny (model g.c.prog g.c.w) A (setItem (.ref p) (.str k t) u) Q E s := by
  obtain ⟨kvs, hd, hr⟩ := Zcl S e
  refine wpAny_setItem_pairs (strKind_is _ _ k t) hd.dictOf (fun h' hd' hs => ?_) (by rw [hr.length]; exact hz)
  obtain ⟨ep', hat⟩ := hd'.dictAt
  exact q _ ep' (S.setObj e (by intro _ _ z; cases z) hs fun D => ⟨_, hat, hr.store hk hv⟩) (m.step _ _)
theorem Zms {v o : PySem.Expr} {n : Str} {p : Pos} {l : Nat} {env : Env} : swapsWith v (some (.Attribute o n p)) l env = pure false := by
  cases v <;> rfl
theorem Zn1 {A : Around} {R : RR} {H : Zaa} {s s0 : Shared} {E : Value → Shared → Prop} {p : Addr} {j : Int} {t : Tok} {xs : List AV} {x : AV} {u : Value} {Q : Unit → Shared → Prop} (hv : VR x u) (e : H p = some (.list xs)) (h0 : 0 ≤ j) (h1 : j < xs.length) (hz : xs.length < 2 ^ 62)
    (S : St g.c R H s.heap) (m : Sm s0 s) (q : ∀ s', St g.c R (up H p (.list (xs.set j.toNat x))) s'.heap → Sm s0 s' → Q () s') : wpAny (model g.c.prog g.c.w) A (setItem (.ref p) (.int j t) u) Q E s := by
  obtain ⟨vs, n, k1, k2, k3⟩ := Zbb S e
  have hl := k2.length
  have hfin : ∀ i : Nat, i = j.toNat → Q () { s with heap := s.heap.update p (Obj.mapSeq (·.setIfInBounds i u)) } := by
    rintro i rfl
    have hg : ∃ n', (s.heap.update p (Obj.mapSeq (·.setIfInBounds j.toNat u))).get? p = some (listOf (vs.toArray.setIfInBounds j.toNat u) n') := ⟨_, Heap.get?_update_self (Obj.mapSeq (·.setIfInBounds j.toNat u)) k1 rfl⟩
    obtain ⟨n', hg⟩ := hg
    rw [List.setIfInBounds_toArray] at hg
    exact q _ (S.setObj (o' := .list (xs.set j.toNat x)) e (by intro _ _ z; cases z) (Heap.SameBut.update ..) fun D => ⟨vs.set j.toNat u, n', hg, k2.set hv _⟩) (m.heap _)
  unfold setItem
  try with_reducible refine wpAny_holding ?_
  refine wpAny_bind (wpAny_sequenceKey k3.typeIs (by decide) ?_)
  refine wpAny_bind (wpAny_callSpecial?_slot (name := Str.ofString "__setitem__") k3.typeIs PySem.F.slot_list_setitem
    (wpAny_call_entry PySem.F.slot_list_setitem k3.typeIs PySem.F.entry_list_setitem ?_ (PySem.F.args_list_setitem_3 _ _ _)))
  show wpAny _ _ (Builtin.List.listSubscript? (.int j t) >>= _) _ _ s
  refine wpAny_bind (wpAny_listSubscript_int (fitsIndex_of h0 (by lia)) ?_)
  obtain ⟨i, rfl⟩ := Int.eq_ofNat_of_zero_le h0
  have hj : i < vs.toArray.size := by simp only [List.size_toArray]; lia
  have hx' : vs.toArray[i]? = some vs.toArray[i] := Array.getElem?_eq_getElem hj
  show wpAny _ _ ((seqItemAt p i >>= fun r => pure (r.map (i, ·))) >>= _) _ _ s
  refine wpAny_bind (wpAny_bind (wpAny_seqItemAt k1 rfl (wpAny_pure ?_)))
  rw [hx']
  show wpAny _ _ (setSeqItemAt p i u >>= _) _ _ s
  refine wpAny_bind (wpAny_setSeqItemAt k1 rfl ?_)
  first
    | exact wpAny_bind (wpAny_pure (wpAny_pure ⟨.none, rfl, wpAny_pure (hfin i rfl)⟩))
    | exact wpAny_pure ⟨.none, rfl, wpAny_pure (hfin i rfl)⟩
set_option tactic.hygienic true in
theorem Zmw {a i : X} {e : X} {o ix v : PySem.Expr} {p pos : Pos} (hns : Zhh ix = true) (ha : XMd g sc nm a o) (hi : XMd g sc nm i ix) (hx : XMd g sc nm e v) : SOk g sc nm (fun g => wpS g (.assign (.sub a i) e)) (exec (.Assign [.Subscript o ix p] v pos)) :=
  fun md A env l₀ R V s0 s H QN QR E ev fr S m q => by
  dsimp only [Zax, Za8, Zaj, Zao, Za6, Zba, Zbq, Zdf, Zcx, tv, tsub, tattr, ttup] at q
  refine wpAny_Assign_Subscript (wpAny_mono ((hx md A R V env env l₀ s0 ev fr).1 H s _ _ S m q) (fun u s₁ z => ?_) fun _ _ z => Zfs fr z) Znx
  obtain ⟨av, H₁, hv, S₁, m₁, q₁⟩ := z
  refine wpAny_mono ((ha md A R V env env l₀ s0 ev fr).1 H₁ s₁ _ _ S₁ m₁ q₁) (fun ov s₂ z => ?_) fun _ _ z => Zfs fr z
  obtain ⟨ao, H₂, ho, S2, m₂, q₂⟩ := z
  refine wpAny_mono ((hi md A R V env env l₀ s0 ev fr).1 H₂ s₂ _ _ S2 m₂ q₂) (fun iv s₃ z => ?_) fun _ _ z => Zfs fr z
  obtain ⟨ai, H₃, hiv, S3, m3, q₃⟩ := z
  split at q₃
  · cases ho
    cases hiv with
    | str k t hk =>
    split at q₃
    · rename_i ep es e
      exact Zn2 hv hk e q₃.1 S3 m3 fun s' ep' S' m' => ⟨R, V, _, .refl, fr, S', m', q₃.2 ep'⟩
    · exact q₃.elim
  · cases ho
    cases hiv with
    | int j t =>
    split at q₃
    · rename_i xs e
      exact Zn1 hv e q₃.1 q₃.2.1 q₃.2.2.1 S3 m3 fun s' S' m' => ⟨R, V, _, .refl, fr, S', m', q₃.2.2.2⟩
    · exact q₃.elim
  · exact q₃.elim
noncomputable def putR (n : String) (a : AV) : List (String × AV) → List (String × AV)
  | [] => [(n, a)]
  | (k, b) :: r => if k = n then (k, a) :: r else (k, b) :: putR n a r
theorem Zu7 {n : String} {a : AV} {es : List (String × AV)} (nd : (es.map (·.1)).Nodup) : putA es n a = putR n a es := by
  induction es with
  | nil => rfl
  | cons kb r ih =>
    obtain ⟨k, b⟩ := kb
    rw [List.map_cons, List.nodup_cons] at nd
    replace ih := ih nd.2
    unfold putA at *
    rw [putR]
    by_cases z : k = n
    · have h2 : (Zd0 ((k, b) :: r) n).isSome = true := by simp [Zd0, z]
      rw [h2, if_pos rfl, if_pos z, List.map_cons, if_pos z]
      congr 1
      refine (List.map_congr_left fun e he => ?_).trans (List.map_id r)
      have hne : e.1 ≠ n := fun w => nd.1 (by show k ∈ _; rw [z, ← w]; exact List.mem_map.mpr ⟨e, he, rfl⟩)
      rw [if_neg hne]; rfl
    · have h2 : (Zd0 ((k, b) :: r) n).isSome = (Zd0 r n).isSome := by simp [Zd0, z]
      rw [h2, if_neg z, ← ih]
      split
      · rw [List.map_cons, if_neg z]
      · rfl
theorem Zp8 {n : String} {hsh : Int} {t : Tok} {a : AV} {v : Value} (hv : VR a v) {es : List (String × AV)} {ents : List DictEntry} (h : Zb9 es ents) : Zb9 (putR n a es) (putL (Str.ofString n) hsh (.str (Str.ofString n) t) v ents) := by
  induction es generalizing ents with
  | nil => cases ents with
    | nil => exact ⟨⟨t, rfl⟩, hv, trivial⟩
    | cons => exact h.elim
  | cons kb r ih =>
    cases ents with
    | nil => exact h.elim
    | cons e q =>
    obtain ⟨k, b⟩ := kb
    obtain ⟨⟨t', hk⟩, hb, hr⟩ := h
    replace ih := ih hr
    unfold putR putL
    by_cases z : k = n
    · have h1 : e.key.isStr (Str.ofString n) = true := by rw [hk, z]; simp [Value.isStr]
      rw [h1, if_pos rfl, if_pos z]
      exact ⟨⟨t', hk⟩, hv, hr⟩
    · have h1 : e.key.isStr (Str.ofString n) = false := by
        rw [hk]
        show (Str.ofString k == Str.ofString n) = false
        rw [beq_eq_false_iff_ne]
        exact fun w => z (Zgd w)
      rw [h1, if_neg Bool.false_ne_true, if_neg z]
      exact ⟨⟨t', hk⟩, hb, ih⟩
theorem Zkf : ∀ {es : List (String × AV)} {ents : List DictEntry}, Zb9 es ents → ents.length = es.length
  | [], [], _ => rfl
  | _ :: _, _ :: _, h => congrArg Nat.succ (Zkf h.2.2)
  | [], _ :: _, h => h.elim
  | _ :: _, [], h => h.elim
theorem Zlx {n : Str} {hsh : Int} {k v : Value} : ∀ {ents : List DictEntry}, (putL n hsh k v ents).length ≤ ents.length + 1
  | [] => Nat.le_refl _
  | e :: r => by
    unfold putL
    split
    · exact Nat.le_succ _
    · exact Nat.succ_le_succ Zlx
set_option tactic.hygienic true in
theorem Zn9 {es : List (String × AV)} {n : String} {a : AV} (nd : (es.map (·.1)).Nodup) : ((putA es n a).map (·.1)).Nodup := by
  unfold putA
  split
  · rw [List.map_map, show ((fun x : String × AV => x.1) ∘ fun e => if e.1 = n then (e.1, a) else e) = (·.1) from by funext e; simp only [Function.comp]; split <;> rfl]
    exact nd
  · rename_i h
    rw [List.map_append, List.nodup_append]
    refine ⟨nd, by simp, fun x hx y hy => ?_⟩
    simp only [List.map_cons, List.map_nil, List.mem_singleton] at hy
    subst hy
    rintro rfl
    apply h
    obtain ⟨e, he, rfl⟩ := List.mem_map.mp hx
    unfold Zd0
    rw [Option.isSome_map, List.find?_isSome]
    exact ⟨e, he, by simp⟩
theorem Zn3 {A : Around} {R : RR} {H : Zaa} {s s0 : Shared} {E : Value → Shared → Prop} {p : Addr} {n cl : String} {es : List (String × AV)} {x : AV} {u : Value} {Q : Unit → Shared → Prop} (C : g.c.Ok mg mb) (PO : PgOk g.c) (hv : VR x u) (e : H p = some (.inst cl es)) (hat : g.c.P.attrs.contains (cl, n) = true) (hz : es.length ≤ 100)
    (S : St g.c R H s.heap) (m : Sm s0 s) (q : ∀ s', St g.c R (up H p (.inst cl (putA es n x))) s'.heap → Sm s0 s' → Q () s') : wpAny (model g.c.prog g.c.w) A (setAttr (.ref p) (Str.ofString n) u) Q E s := by
  obtain ⟨c1, c2, c3, c4, c5, c6⟩ := PO.attr cl n hat
  obtain ⟨d, ents, k, x1, x2, x3, x4, x5⟩ := S.setAttr e
  have X := C.kin.keeps S.stays
  have I : InstAt s.heap p (instObj (g.c.ca cl) d) (g.c.ca cl) (some (dictOf ents k)) := ⟨x1, rfl, rfl, x2⟩
  obtain ⟨f1, f2⟩ := Zf8 (n := n) x3
  have hlen := Zkf x3
  obtain ⟨cd, hc, hd'⟩ := any_some c2
  refine set_plain X I c4 ?_
  refine osa_open X (⟨x1, rfl, rfl, x2⟩ : InstAt s.heap p (instObj (g.c.ca cl) d) (g.c.ca cl) (some (dictOf ents k))) c5 c6 fun b => ?_
  refine wpAny_bind (wpAny_pure (wpAny_bind (wpAny_bind (wpAny_loadPart x1 (wpAny_bind (Looks.here (s := { s with toks := s.toks + 1 }) (looks_clsIn X hc) ?_))))))
  rw [hd']
  refine wpAny_pure (a := some d) (wpAny_bind (wpAny_pure (wpAny_bind ?_)))
  unfold nsSet
  refine wpAny_bind (wpAny_bind (wpAny_askSetting (wpAny_pure (wpAny_bind (wpAny_mkText (wpAny_bind (wpAny_loadPart x2 ?_)))))))
  dsimp only
  have hc' : (!ents.toArray.any (·.key.isStr (Str.ofString n)) && ents.toArray.any (·.refKey)) = false := by
    have h1 : ents.toArray.any (·.refKey) = ents.any (·.refKey) := by rw [← Array.any_toList]
    rw [h1, f2, Bool.and_false]
  rw [aRefKeyMayBeTheName_at, hc']
  refine wpAny_updatePart x2 ?_
  have hg : ∀ (tk : Tok), (s.heap.update d (Obj.putName (Str.ofString n) (PyData.keyHash g.c.w.params (Str.ofString n)) (.str (Str.ofString n) tk) u)).get? d = some (dictOf (putL (Str.ofString n) (PyData.keyHash g.c.w.params (Str.ofString n)) (.str (Str.ofString n) tk) u ents) (putN (Str.ofString n) ents k)) := fun tk => by
    refine (Heap.get?_update_self _ x2 ?_).trans ?_
    · rw [putName_dict]; rfl
    · rw [putName_dict]
  refine wpAny_bind (wpAny_lookBehind (hg _) (pastItsLine_dict (by rw [List.size_toArray, sizeLine_eq]; have := Zlx (n := Str.ofString n) (hsh := PyData.keyHash g.c.w.params (Str.ofString n)) (k := .str (Str.ofString n) (s.toks + 1)) (v := u) (ents := ents); lia)) ?_)
  refine wpAny_pure (q _ (x5 _ _ _ _ (Heap.SameBut.update ..) (hg _) ?_ (Zn9 x4)) (m.step _ _))
  rw [Zu7 x4]
  exact Zp8 hv x3
set_option tactic.hygienic true in
theorem Zkt {a : X} {n : String} {e : X} {o v : PySem.Expr} {p pos : Pos} (C : g.c.Ok mg mb) (PO : PgOk g.c) (ha : XMd g sc nm a o) (hx : XMd g sc nm e v) : SOk g sc nm (fun g => wpS g (.assign (.attr a n) e)) (exec (.Assign [.Attribute o (Str.ofString n) p] v pos)) :=
  fun md A env l₀ R V s0 s H QN QR E ev fr S m q => by
  dsimp only [Zax, Za8, Zaj, Zao, Za6, Zba, Zbq, Zdf, Zcx, tv, tsub, tattr, ttup] at q
  refine plainObj_wpAny_Assign_Attribute (wpAny_mono ((hx md A R V env env l₀ s0 ev fr).1 H s _ _ S m q) (fun u s₁ z => ?_) fun _ _ z => Zfs fr z) Zms
  obtain ⟨av, H₁, hv, S₁, m₁, q₁⟩ := z
  refine wpAny_mono ((ha md A R V env env l₀ s0 ev fr).1 H₁ s₁ _ _ S₁ m₁ q₁) (fun ov s₂ z => ?_) fun _ _ z => Zfs fr z
  obtain ⟨ao, H₂, ho, S2, m₂, q₂⟩ := z
  split at q₂
  · cases ho
    split at q₂
    · rename_i cl es e
      exact Zn3 (g := { g with md := md }) C PO hv e q₂.1 q₂.2.1 S2 m₂ fun s' S' m' => ⟨R, V, _, .refl, fr, S', m', q₂.2.2⟩
    · exact q₂.elim
  · exact q₂.elim
theorem Ztc {cl : String} {msg : Str} {fe : PySem.Expr} {k : Nat} {mp cp pos : Pos} (C : g.c.Ok mg mb) (PO : PgOk g.c) (hn : Zbr sc cl fe = true) (hx : (g.c.P.excs.lookup cl).isSome = true) : SOk g sc nm (fun g => wpS g (.raise cl msg)) (exec (.Raise (some (.Call fe [.Constant (.str msg) k mp] [] cp)) none pos)) :=
  fun md A env l₀ R V s0 s H QN QR E ev fr S m q => by
  dsimp only [Zax, Za8, Zaj, Zao, Za6, Zba, Zbq, Zdf, Zcx] at q
  obtain ⟨hmd, q⟩ := q
  subst hmd
  obtain ⟨r1, r2, _⟩ := PO.excR cl hx
  obtain ⟨pp, loose, T⟩ := C.top
  obtain ⟨tl, N, nmm, qn, bs, hdct, sn, sub, ab, col, dd, k0, k1, k2, k3, k5, mN, hC, hN, hni, TL⟩ := ((own_of_in C.kin T r1 r2).keeps S.stays).obj
  have FB := PySem.F.excBase_ValueError
  obtain ⟨id, p, rfl⟩ := Zdz hn
  refine wpAny_Raise_call_subT (C := g.c.ca cl) (nm := nmm) (q := qn) (N := N) (bs := bs) (bm := tl) (hdct := hdct) (sn := sn) (sub := sub) (ab := ab) (col := col) (dd := dd) (k0 := k0) (k1 := k1) (k2 := k2) (k3 := k3) (k5 := k5)
    FB (mN := mN) (TL.hasType FB.hasBase) (ev.aok.hand rfl) rfl hni (Zie C fr S hn r1 ⟨rfl, ?_⟩)
  refine evalArgs_plain (spliced_cons (wpAny_Constant_str (k := k) (pos := mp) (spliced_nil ⟨rfl, by show 1 ≤ sizeLine; decide, hC, hN, TL, fun h' e hm => ?_⟩)))
  obtain ⟨t, ht, _⟩ := hm.there
  obtain ⟨mm, hmm, _⟩ := fr.ns
  obtain ⟨H₁, S, rl⟩ := S
  have S' : St1 g.c R H₁ h' := by
    refine S.noted (ls := []) (fun a ha => by cases ha) (fun b o z _ => hm.keeps b o z) (fun b o z _ => ⟨o.slots, hm.keeps b o z⟩) ?_
    obtain ⟨oL, es, ep, w, _⟩ := (S.res _ _ hmm).2
    have h1 := leN (S.res _ _ hmm).1
    have h2 := lts (hm.keeps _ _ w)
    exact Nat.le_of_lt (Nat.lt_of_le_of_lt h1 h2)
  refine ⟨e, cl, R, V, H, .ellipsis, rfl, .refl, fr, .inl rfl, ⟨H₁, ⟨S', ?_, ?_, ?_, .fresh ht, hx⟩, rl⟩, m.step _ _, q⟩
  · cases z : R e with
    | none => rfl
    | some r => obtain ⟨ob, w⟩ := (S.res _ _ z).2.there; have := hm.new; rw [show s.heap.get? e = some ob from w] at this; cases this
  · cases z : H₁ e with
    | none => rfl
    | some r => obtain ⟨D, s4⟩ := S.rep; obtain ⟨ob, w⟩ := (s4.rep _ _ z).there; have := hm.new; rw [show s.heap.get? e = some ob from w] at this; cases this
  · cases z : g.c.base.get? e with
    | none => rfl
    | some r => have w := S.stays _ _ z; have := hm.new; rw [show s.heap.get? e = some r from w] at this; cases this
set_option tactic.hygienic true in
theorem Zpr {M : Model} {A : Around} {E : Value → Shared → Prop} {s : Shared} {K : Frag} {e C D : Addr} {oe : Obj} {r : Bool} {Q : Bool → Shared → Prop} (X : K.In s.heap) (he : s.heap.get? e = some oe) (hc : oe.cls = .ref C)
    (h1 : instIn K (.ref D) (.type "tuple") = some false) (h2 : subIn K (.ref D) (.type "BaseException") = some true) (h3 : (clsIn K D).isSome = true) (h4 : subIn K (.ref C) (.ref D) = some r) (q : Q r s) :
    wpAny M A (excMatches (.ref e) (.ref D)) Q E s := by
  obtain ⟨hh, gg, d, tt, os⟩ := s
  have L1 := looks_instIn (M := M) X h1
  have L2 := looks_subIn (M := M) X h2
  have L4 := looks_subIn (M := M) X h4
  have LT : Looks M hh (typeOf (.ref e)) (.ref C) := by rw [← hc]; exact (Looks.ld he).andThen .now
  obtain ⟨cd, h3⟩ := Option.isSome_iff_exists.mp h3
  unfold excMatches
  refine wpAny_bind (L1.at ?_)
  dsimp only [Bool.false_eq_true, if_false]
  refine wpAny_bind (wpAny_pure (wpAny_bind ?_))
  have L5 : Looks M hh (isExcClass (.ref D)) true := by
    unfold clsIn at h3
    split at h3
    · rename_i ho
      have Lt : Looks M hh (isType (.ref D)) true := (Looks.ld (part := none) (X _ _ ho)).andThen .now
      intro A' Q' E' s' k' q'
      unfold isExcClass
      refine wpAny_bind (Lt A' _ E' s' k' ?_)
      rw [if_pos rfl]
      exact L2 A' _ E' s' k' q'
    · cases h3
  rw [List.forIn_cons]
  refine wpAny_bind (wpAny_bind (L5.at ?_))
  simp only [Bool.not_true, Bool.false_eq_true, if_false]
  refine wpAny_pure ?_
  dsimp only
  rw [List.forIn_nil]
  refine wpAny_pure (wpAny_bind (LT.at (wpAny_bind ?_)))
  rw [List.forIn_cons]
  refine wpAny_bind (wpAny_bind (L4.at ?_))
  cases r with
  | true =>
    dsimp only [if_true]
    exact wpAny_pure (wpAny_pure (wpAny_pure q))
  | false =>
    dsimp only [Bool.false_eq_true, if_false]
    refine wpAny_pure ?_
    dsimp only
    rw [List.forIn_nil]
    exact wpAny_pure (wpAny_pure q)
end
end Mine
end
section
open PySem PySem.W PyProof.Rows PySem.Spec PySem.SeqAt PySem.Calls
namespace Mine
section
variable {g : Gx} {sc : Scope} {nm : List Str} {mg mb : Str → Option Value}
noncomputable def HdOk (g : Gx) (sc : Scope) (nm : List Str) : Hd → ExceptHandler → Prop
  | .mk cl nmi b, .ExceptHandler (some t) name (x :: body) _ => Zbr sc cl t = true ∧ (g.c.P.excs.lookup cl).isSome = true ∧ SOk g sc nm (fun g => wpSs g b) (execs (x :: body)) ∧ nmOk sc nm nmi name = true
  | _, _ => False
inductive Zkk (P : Hd → ExceptHandler → Prop) : List Hd → List ExceptHandler → Prop
  | nil : Zkk P [] []
  | cons {x e xs es} : P x e → Zkk P xs es → Zkk P (x :: xs) (e :: es)
theorem Zpw {A : Around} {R : RR} {env : Env} {l₀ : List Env} {e : Value} (ev : Ev { g with md := true } A R env l₀) : Ev { g with md := false } (A.mark (some e)) R env l₀ :=
  ⟨⟨ev.aok.frames, ev.aok.depth, ev.aok.units, fun h => by cases h⟩, ev.stk⟩
theorem Zlo {env : Env} {R : RR} {s0 s : Shared} {e : Value} (h : TX g env sc nm R s0 (fun _ _ _ => False) e s) {P : Prop} : P := by
  obtain ⟨_, _, _, _, _, _, _, _, _, _, _, _, q⟩ := h
  exact q.elim
theorem Zjr {M : Model} {A : Around} {E : Value → Shared → Prop} {s : Shared} {R : RR} {H : Zaa} {env : Env} {n : Str} {pos : Pos} {m : Str → Option Value} {Q : Unit → Shared → Prop} (hl : env.kindOf n = some .local) (hk : env.scope.kind = .function) (hm : R env.locals = some (.ns m)) (S : St g.c R H s.heap)
    (q : ∀ s' v, St g.c (rup R env.locals (.ns fun x => if x = n then v else m x)) H s'.heap → Sm s s' → Q () s') : wpAny M A (do bindName env n .none; unbindBehindTheSuite env n pos) Q E s :=
  wpAny_nameGoes_keeps hl (S.res _ _ hm).2 (by rw [hk]; rfl) fun h' v hn hs => q _ v (S.setRes (r' := .ns _) hm hs hn) ⟨_, _, rfl⟩
theorem Zhk {env : Env} {R : RR} {m m' : Str → Option Value} (hm : R env.locals = some (.ns m)) : RStep env R (rup R env.locals (.ns m')) := fun b => by
  by_cases z : b = env.locals
  · subst z; exact .inr (.inl ⟨rfl, _, _, hm, Zaq⟩)
  · exact .inl (Zah z)
theorem Zxw (C : g.c.Ok mg mb) (PO : PgOk g.c) (nd : nm.Nodup) {hs : List Hd} {es : List ExceptHandler} (hh : Zkk (HdOk g sc nm) hs es) : ∀ (A : Around) (env : Env) (l₀ : List Env) (R : RR) (V : VV) (s0 s : Shared) (H : Zaa) (e : Addr) (cl : String) (QN : VV → Zaa → Prop) (QR : AV → Zaa → Prop) (E : String → VV → Zaa → Prop),
    Ev { g with md := true } A R env l₀ → Frm R env sc nm V → ExcSt g.c R H e cl .none s.heap → Sm s0 s → wpHs { g with md := true } hs cl QN QR E V H →
    wpAny (model g.c.prog g.c.w) A (handleBy (.ref e) env es) (TF g env sc nm R s0 QN QR) (TX g env sc nm R s0 E) s := by
  induction hh with
  | nil => exact fun A env l₀ R V s0 s H e cl QN QR E ev fr X m q => q.elim
  | @cons x eh _ _ h r ih =>
    intro A env l₀ R V s0 s H e cl QN QR E ev fr X m q
    obtain ⟨c, nmi, b⟩ := x
    obtain ⟨ty, name, body, pos⟩ := eh
    rw [Ziz, Zua] at q
    cases ty with
    | none => exact h.elim
    | some t =>
    cases body with
    | nil => exact h.elim
    | cons b0 body =>
    obtain ⟨h1, h2, h3, h4⟩ := h
    obtain ⟨r1, r2, r3, r4, r5, _⟩ := PO.excR c h2
    obtain ⟨o, vs, o1, o2, o3⟩ := X.obj
    refine wpAny_handleBy_cons (codeAny_handlers_test (Zie C fr X.st h1 r1 ?_)) (by intro z; cases z)
    refine Zpr (C.kin.keeps X.st.stays) o1 o2 r3 r4 r5 (PO.excC cl c X.kn h2) ?_
    cases hsub : Zdj g.c.P cl c with
    | false =>
      simp only [hsub, Bool.false_eq_true, if_false] at q ⊢
      exact ih A env l₀ R V s0 s H e cl QN QR E ev fr X m q
    | true =>
      simp only [hsub, if_true] at q ⊢
      cases nmi with
      | none =>
        cases name with
        | some => exact Bool.noConfusion h4
        | none =>
        refine codeAny_handlers_suite (Zes X (by simp) fun h' X' => ?_)
        refine wpAny_mono (h3 false (A.mark (some (.ref e))) env l₀ R V s0 { s with heap := h' } H QN QR (fun _ _ _ => False) (Zpw ev) fr X'.st (m.heap h') q) (fun f s' z => z) fun _ _ z => Zlo z
      | some i =>
        cases name with
        | none => exact Bool.noConfusion h4
        | some n =>
        have h5 := eq_of_beq (and2 h4).1; have h6 := eq_of_beq (and2 h4).2
        obtain ⟨hlt, q⟩ := q e X.he
        refine codeAny_handlers_suite_as (Zes X (by simp) fun h' X' => ?_)
        refine Zft fr nd h5 (by unfold Zdm; rw [h6]) (.ref e) X'.caught fun s₂ R₂ r₂ f₂ S2 m₂ => ?_
        refine wpAny_mono (h3 false (A.mark (some (.ref e))) env l₀ R₂ _ s0 s₂ _ _ QR (fun _ _ _ => False) (Zpw (ev.step r₂)) f₂ S2 ((m.heap h').trans m₂) q) (fun f s₃ z => ?_) fun _ _ z => Zlo z
        have hl := fr.lco n h6
        cases f with
        | next =>
          obtain ⟨R₃, V3, H₃, r₃, f₃, S3, m3, q₃⟩ := z
          obtain ⟨mm, hmm, _⟩ := f₃.ns
          exact Zjr hl fr.kind hmm S3 fun s₄ v S4 m4 => ⟨_, _, H₃, (r₂.trans r₃).trans (Zhk hmm), f₃.local' nd h5 hl hmm .none, S4, m3.trans m4, q₃⟩
        | ret v =>
          obtain ⟨R₃, av, H₃, r₃, hv, S3, m3, q₃⟩ := z
          obtain ⟨mm, hmm, _⟩ := f₂.ns
          obtain ⟨mm', hmm'⟩ := r₃.ns hmm
          exact Zjr hl fr.kind hmm' S3 fun s₄ w S4 m4 => ⟨_, av, H₃, (r₂.trans r₃).trans (Zhk hmm'), hv, S4, m3.trans m4, q₃⟩
        | brk => exact z.elim
        | cont => exact z.elim
theorem Zw8 {b : List S} {hs : List Hd} {x : List Stmt} {h₀ : ExceptHandler} {es : List ExceptHandler} {pos : Pos} (C : g.c.Ok mg mb) (PO : PgOk g.c) (nd : nm.Nodup) (hb : SOk g sc nm (fun g => wpSs g b) (execs x)) (hh : Zkk (HdOk g sc nm) hs (h₀ :: es)) :
    SOk g sc nm (fun g => wpS g (.try b hs)) (exec (.Try x (h₀ :: es) [] [] pos)) := fun md A env l₀ R V s0 s H QN QR E ev fr S m q => by
  dsimp only [Zax, Za8, Zaj, Zao, Za6, Zba, Zbq, Zdf, Zcx] at q
  obtain ⟨hmd, q⟩ := q
  subst hmd
  refine wpAny_Try_except (wpAny_mono (hb true A env l₀ R V s0 s H _ QR _ ev fr S m q) (fun f s₁ z => ?_) fun e s₁ z => ?_)
  · cases f with
    | next => exact wpAny_execs_nil z
    | ret v => exact z
    | brk => exact z
    | cont => exact z
  · obtain ⟨a, cl, R', V', H', fl, rfl, r, f', hfl, X, m', q'⟩ := z
    refine Zml ev.aok.frames (r.stk ev.stk) X hfl fun h₁ X1 => ?_
    refine Zes (s := { s₁ with heap := h₁ }) X1 (by simp [rawInt]) fun h₂ X2 => ?_
    exact wpAny_mono (Zxw C PO nd hh A env l₀ R' V' s0 { s₁ with heap := h₂ } H' a cl QN QR E (ev.step r) f' X2 (m'.heap h₂) q') (fun _ _ z => z.trans r) fun _ _ z => z.trans r
theorem Zr6 {e : X} {m : X → Prop} (h : Zpf e = true) (f : ∀ x k tup it c, m (.comp x k tup it c)) : m e := X.comp.elim (motive_1 := m) e (eq_of_beq h) f
theorem Zqv {msg : Str} {es : List PySem.Expr} {m : List PySem.Expr → Prop} (h : Zvw msg es = true) (f : ∀ k p, m [.Constant (.str msg) k p]) : m es :=
  Ze3 h fun e h => Zhg (m := fun e => m [e]) h fun _ k p h => eq_of_beq (and2 h).1 ▸ f k p
variable (C : g.c.Ok mg mb) (PO : PgOk g.c) (nd : nm.Nodup)
include C PO in
theorem xmd {e : X} {v : PySem.Expr} (h : mtX g.c.P true sc nm e v = true) : XMd g sc nm e v := fun md => sX (g := { g with md := md }) C PO e v true sc nm h
include C PO nd in
theorem sAs {t : T} {e : X} {tg v : PySem.Expr} {pos : Pos} (h1 : (Ze4 v || (isLC v && Zpf e)) = true) (h0 : (Zsr v || Zou t) = true) (h2 : mtT g.c.P sc nm t tg = true) (h3 : mtX g.c.P true sc nm e v = true) :
    SOk g sc nm (fun g => wpS g (.assign t e)) (exec (.Assign [tg] v pos)) := by
  cases t with
  | var i =>
    cases hc : Ze4 v with
    | true => exact Zmv nd hc h2 (xmd C PO h3)
    | false =>
      rw [hc, Bool.false_or] at h1
      clear h0
      revert h1 h3
      refine fun h1 => Zr6 (m := fun e => mtX g.c.P true sc nm e v = true → SOk g sc nm (fun g => wpS g (.assign (.var i) e)) (exec (.Assign [tg] v pos))) (and2 h1).2 fun x k tup it cc h3 => ?_
      refine Zju (m := fun v => XMd g sc nm (.comp x k tup it cc) v → SOk g sc nm (fun g => wpS g (.assign (.var i) (.comp x k tup it cc))) (exec (.Assign [tg] v pos))) h3 (fun elt ctg iter ifs csc ts p htg o => ?_) (xmd C PO h3)
      rw [o.len]
      exact fun hx => Zks C htg nd h2 o.sc o.set (xmd C PO o.it) (fun md => sX (g := { g with md := md }) C PO x elt false _ _ o.x) (fun md => sC (g := { g with md := md }) C PO cc ifs _ _ o.c) hx
  | sub a i => exact Zl4 (m := fun tg => SOk g sc nm (fun g => wpS g (.assign (.sub a i) e)) (exec (.Assign [tg] v pos))) h2 fun _ _ _ k1 k2 k3 => Zmw k1 (xmd C PO k2) (xmd C PO k3) (xmd C PO h3)
  | tup is => exact Bool.noConfusion (show false = true from h2)
  | attr a n => exact Zeq (m := fun tg => SOk g sc nm (fun g => wpS g (.assign (.attr a n) e)) (exec (.Assign [tg] v pos))) h2 fun o _ p k => eq_of_beq (and2 k).1 ▸ Zkt C PO (xmd C PO (and2 k).2) (xmd C PO h3)
include C PO nd in
mutual
theorem sS : ∀ (st : S) (t : Stmt), mtS g.c.P sc nm st t = true → SOk g sc nm (fun g => wpS g st) (exec t)
  | .assign t e, st, h => Zor (m := fun st => SOk g sc nm (fun g => wpS g (.assign t e)) (exec st)) h fun ts v p h => Ze3 (m := fun ts => SOk g sc nm (fun g => wpS g (.assign t e)) (exec (.Assign ts v p))) h fun tg h =>
    have h3 := and2 h; have h2 := and2 h3.1; have h1 := and2 h2.1; sAs C PO nd h1.1 h1.2 h2.2 h3.2
  | .expr e, st, h => Zm5 (m := fun st => SOk g sc nm (fun g => wpS g (.expr e)) (exec st)) h fun v p h => Zu2 (and2 h).1 (xmd C PO (and2 h).2)
  | .ret e, st, h => Zom (m := fun st => SOk g sc nm (fun g => wpS g (.ret e)) (exec st)) h fun v p h => Zep (m := fun v => SOk g sc nm (fun g => wpS g (.ret e)) (exec (.Return v p))) h fun v h => Zxc (xmd C PO h)
  | .ite c a b, st, h => Zon (m := fun st => SOk g sc nm (fun g => wpS g (.ite c a b)) (exec st)) h fun t x y p h => have h2 := and2 h; have h1 := and2 h2.1; s_if (xmd C PO h1.1) (sSs a x h1.2) (sSs b y h2.2)
  | .while c b, st, h => Zk0 (m := fun st => SOk g sc nm (fun g => wpS g (.while c b)) (exec st)) h fun t x o p h => have h1 := and2 (and2 h).2; Zbx (m := fun o => SOk g sc nm (fun g => wpS g (.while c b)) (exec (.While t x o p))) (and2 h).1 (Zta (xmd C PO h1.1) (sSs b x h1.2))
  | .for t it b, st, h => Zoo (m := fun st => SOk g sc nm (fun g => wpS g (.for t it b)) (exec st)) h fun tg i x o p h => have h3 := and2 (and2 h).2; have h2 := and2 h3.1; have h1 := and2 h2.1
    Zbx (m := fun o => SOk g sc nm (fun g => wpS g (.for t it b)) (exec (.For tg i x o p))) (and2 h).1 (Zxf C nd h1.1 h1.2 (xmd C PO h2.2) (sSs b x h3.2))
  | .raise cl msg, st, h => Zk2 (m := fun st => SOk g sc nm (fun g => wpS g (.raise cl msg)) (exec st)) h fun c z p h => match z, h with
    | some _, h => Bool.noConfusion h
    | none, h => Zep (m := fun c => SOk g sc nm (fun g => wpS g (.raise cl msg)) (exec (.Raise c none p))) h fun c h => Zfj (m := fun c => SOk g sc nm (fun g => wpS g (.raise cl msg)) (exec (.Raise (some c) none p))) h fun fe as q h1 h2 h3 =>
      Zqv (m := fun as => SOk g sc nm (fun g => wpS g (.raise cl msg)) (exec (.Raise (some (.Call fe as [] q)) none p))) h3 fun _ _ => Ztc C PO h1 h2
  | .try b hs, st, h => Zok (m := fun st => SOk g sc nm (fun g => wpS g (.try b hs)) (exec st)) h fun x hs' o z p h => have h1 := and2 (and2 h).2; have h0 := and2 (and2 h).1
    Zbx (m := fun o => SOk g sc nm (fun g => wpS g (.try b hs)) (exec (.Try x hs' o z p))) h0.1 (Zbx (m := fun z => SOk g sc nm (fun g => wpS g (.try b hs)) (exec (.Try x hs' [] z p))) h0.2
      (Zc7 (m := fun hs' => SOk g sc nm (fun g => wpS g (.try b hs)) (exec (.Try x hs' [] [] p))) h1.2 fun h₀ r h => Zw8 C PO nd (sSs b x h1.1) (sHs hs (h₀ :: r) h)))
  | .pass, st, h => Zm3 (m := fun st => SOk g sc nm (fun g => wpS g .pass) (exec st)) h fun _ _ => Zu0
theorem sSs : ∀ (l : List S) (ts : List Stmt), mtSs g.c.P sc nm l ts = true → SOk g sc nm (fun g => wpSs g l) (execs ts)
  | [], ts, h => Zbx (m := fun ts => SOk g sc nm (fun g => wpSs g []) (execs ts)) h Zux
  | st :: r, ts, h => Zc7 (m := fun ts => SOk g sc nm (fun g => wpSs g (st :: r)) (execs ts)) h fun e q h => Zs9 (sS st e (and2 h).1) (sSs r q (and2 h).2)
theorem sHs : ∀ (l : List Hd) (ts : List ExceptHandler), mtHs g.c.P sc nm l ts = true → Zkk (HdOk g sc nm) l ts
  | [], ts, h => Zbx (m := Zkk (HdOk g sc nm) []) h .nil
  | hd :: r, ts, h => Zc7 (m := Zkk (HdOk g sc nm) (hd :: r)) h fun e q h => .cons (sH hd e (and2 h).1) (sHs r q (and2 h).2)
theorem sH : ∀ (hd : Hd) (t : ExceptHandler), mtH g.c.P sc nm hd t = true → HdOk g sc nm hd t
  | .mk cl nmi b, .ExceptHandler ty name body p, h => Zep (m := fun ty => HdOk g sc nm (.mk cl nmi b) (.ExceptHandler ty name body p)) h fun t h => Zc7 (m := fun body => HdOk g sc nm (.mk cl nmi b) (.ExceptHandler (some t) name body p)) h fun x body h =>
    have h3 := and2 h; have h2 := and2 h3.1; have h1 := and2 h2.1; ⟨h1.1, h1.2, sSs b (x :: body) h2.2, h3.2⟩
end
end
end Mine
end
section
open PySem PySem.W PyProof.Rows PySem.Spec PySem.SeqAt PySem.Calls
namespace Mine
theorem Zmp {ns : List Str} : ∀ {vs : List Value}, ns.length = vs.length → ∀ n ∈ ns, ((ns.zip vs).lookup n).isSome = true := by
  induction ns with
  | nil => intro vs _ n hn; cases hn
  | cons a r ih =>
    intro vs hl n hn
    cases vs with
    | nil => simp at hl
    | cons v vs =>
      simp only [List.zip_cons_cons, List.lookup_cons]
      cases hb : n == a with
      | true => rfl
      | false =>
        have hne : n ≠ a := by simpa using hb
        rcases List.mem_cons.mp hn with h | h
        · exact absurd h hne
        · exact ih (by simpa using hl) n h
theorem Zmj {α β : Type} {f g : α → Option β} : ∀ {l : List α}, (∀ x ∈ l, f x = g x) → l.filterMap f = l.filterMap g
  | [], _ => rfl
  | a :: r, h => by rw [List.filterMap_cons, List.filterMap_cons, h a (.head _), Zmj fun x hx => h x (.tail _ hx)]
theorem Zik {ns : List Str} : ∀ {vs : List Value}, ns.Nodup → ns.length = vs.length → (ns.filterMap fun n => ((ns.zip vs).lookup n).map fun v => (n, v)) = ns.zip vs := by
  induction ns with
  | nil => intro vs _ _; rfl
  | cons a r ih =>
    intro vs hn hl
    cases vs with
    | nil => simp at hl
    | cons v vs =>
      obtain ⟨h1, h2⟩ := List.nodup_cons.mp hn
      simp only [List.zip_cons_cons, List.filterMap_cons, List.lookup_cons, beq_self_eq_true, Option.map_some]
      congr 1
      refine Eq.trans ?_ (ih h2 (by simpa using hl))
      apply Zmj
      intro n hn'
      have hne : (n == a) = false := by
        apply beq_eq_false_iff_ne.mpr
        rintro rfl; exact h1 hn'
      simp only [hne]
theorem Zo9 {α : Type} {M : Model} {A : Around} {E : Value → Shared → Prop} {s : Shared} {Q : α → Shared → Prop} {c : Prop} [Decidable c] {a b : Sem α} (hc : ¬c) (h : wpAny M A b Q E s) : wpAny M A (if c then a else b) Q E s := by rw [if_neg hc]; exact h
theorem Znn {s : Shared} {fd : FuncData} {vals : List Value} (h1 : fd.params.posonlyargs = []) (h2 : fd.params.vararg = none) (h3 : fd.params.kwonlyargs = []) (h4 : fd.params.kwarg = none) (h5 : fd.defaults = .none)
    (h6 : (fd.params.args.map (·.arg)).Nodup) (h7 : fd.params.args.length = vals.length) : BindsTo s fd ⟨vals, []⟩ ((fd.params.args.map (·.arg)).zip vals) := by
  obtain ⟨nm, qn, ⟨po, as, va, ko, kd, kw, df⟩, bd, sc, gl, cl, dfl, kdf, dc, pm, an, cd, ct, bl⟩ := fd
  replace h1 : po = [] := h1
  replace h2 : va = none := h2
  replace h3 : ko = [] := h3
  replace h4 : kw = none := h4
  replace h5 : dfl = .none := h5
  subst h1 h2 h3 h4 h5
  intro M A E Q q
  refine wpAny_bind (wpAny_pure (wpAny_bind (wpAny_pure (a := (none : Option (Array Value))) ?_)))
  have hl : (as.map (·.arg)).length = vals.length := by rw [List.length_map]; exact h7
  have ed : ∀ k, List.drop k ((none : Option (Array Value)).getD #[]).toList = [] := fun _ => List.drop_nil
  have e1 : (((as.map (·.arg)).take (as.map (·.arg)).length).filter fun n => (((as.map (·.arg)).zip vals).lookup n).isNone) = [] := by
    rw [List.take_length, List.filter_eq_nil_iff]
    intro n hn
    have := Zmp hl n hn
    simpa using this
  refine Zo9 (fun z => Nat.lt_irrefl _ (Nat.lt_of_lt_of_eq (of_decide_eq_true (and2 z).1) hl.symm)) ?_
  rw [ed]
  refine Zo9 (fun z => Bool.noConfusion (((congrArg (fun l => !l.isEmpty) e1).symm.trans z))) ?_
  rw [List.zip_nil_right]
  refine wpAny_bind (wpAny_pure (wpAny_bind (wpAny_pure ?_)))
  refine Zo9 (fun z => Bool.noConfusion z) (wpAny_pure ?_)
  show Q ((as.map (fun a : PySem.Arg => a.arg) ++ []).filterMap fun n => (((as.map (fun a : PySem.Arg => a.arg)).zip vals).lookup n).map fun x => (n, x)) s
  rw [List.append_nil]
  exact (Zik h6 hl).symm ▸ q
theorem St1.news {c : Cx} {R R' : RR} {H : Zaa} {h h' : Heap} (S : St1 c R H h) (k : ∀ b ob, h.get? b = some ob → h'.get? b = some ob) (hs : h.objs.size ≤ h'.objs.size)
    (hR : ∀ b, R' b = R b ∨ (h.objs.size ≤ b ∧ ∃ r, R' b = some r ∧ ResAt h' b r)) : St1 c R' H h' := by
  have S' := S.keeps k hs
  obtain ⟨D0, s40⟩ := S.rep
  have hb := S.size
  refine ⟨S'.stays, S'.size, fun b r e => ?_, D0, ⟨fun a ao e => (s40.rep a ao e).agree (fun _ => k _ _) fun _ _ _ => ⟨rfl, fun _ => k _ _⟩, fun a ao e => ?_, fun a cl es e => ?_, s40.inj⟩⟩
  · rcases hR b with q | ⟨q1, r', q2, q3⟩
    · rw [q] at e; exact S'.res b r e
    · rw [q2] at e; cases e; exact ⟨by have := leN q1; lia, q3⟩
  · refine ⟨(s40.above a ao e).1, ?_⟩
    rcases hR a with q | ⟨q1, _⟩
    · rw [q]; exact (s40.above a ao e).2
    · obtain ⟨ob, w⟩ := (s40.rep a ao e).there
      have := lts w; have := leN q1; lia
  · obtain ⟨y1, y2, y3⟩ := s40.dict a cl es e
    refine ⟨y1, ?_, y3⟩
    rcases hR (D0 a) with q | ⟨q1, _⟩
    · rw [q]; exact y2
    · obtain ⟨_, ents, n, w, _⟩ := s40.rep a _ e
      have := lts w; have := leN q1; lia
theorem St.news {c : Cx} {R R' : RR} {H : Zaa} {h h' : Heap} (S : St c R H h) (k : ∀ b ob, h.get? b = some ob → h'.get? b = some ob) (hs : h.objs.size ≤ h'.objs.size)
    (hR : ∀ b, R' b = R b ∨ (h.objs.size ≤ b ∧ ∃ r, R' b = some r ∧ ResAt h' b r)) : St c R' H h' := let ⟨H₁, s, r⟩ := S; ⟨H₁, s.news k hs hR, r⟩
theorem Zkb {kf : Str → Option NameKind} : ∀ {bs : List (Str × Value)} {m : Str → Option Value} {n : Str}, n ∉ bs.map (·.1) → bindL kf bs m n = m n
  | [], _, _, _ => rfl
  | (a, v) :: r, m, n, h => by
    simp only [List.map_cons, List.mem_cons, not_or] at h
    unfold bindL
    rw [Zkb h.2]
    split
    · simp [h.1]
    · rfl
theorem Zkd {kf : Str → Option NameKind} : ∀ {bs : List (Str × Value)} {m : Str → Option Value} {n : Str}, n ∉ bs.map (·.1) → bindC kf bs m n = m n
  | [], _, _, _ => rfl
  | (a, v) :: r, m, n, h => by
    simp only [List.map_cons, List.mem_cons, not_or] at h
    unfold bindC
    rw [Zkd h.2]
    split
    · rfl
    · simp [h.1]
theorem Zkc {kf : Str → Option NameKind} : ∀ {bs : List (Str × Value)} {m : Str → Option Value} {n : Str} {v : Value} {i : Nat}, (bs.map (·.1)).Nodup → bs[i]? = some (n, v) → kf n = some .local → bindL kf bs m n = some v
  | (a, w) :: r, m, n, v, 0, hn, e, hk => by
    simp only [List.getElem?_cons_zero, Option.some.injEq, Prod.mk.injEq] at e
    obtain ⟨rfl, rfl⟩ := e
    simp only [List.map_cons, List.nodup_cons] at hn
    unfold bindL
    rw [Zkb hn.1, if_pos hk]; simp
  | (a, w) :: r, m, n, v, i + 1, hn, e, hk => by
    simp only [List.getElem?_cons_succ] at e
    simp only [List.map_cons, List.nodup_cons] at hn
    unfold bindL
    exact Zkc hn.2 e hk
theorem Zke {kf : Str → Option NameKind} : ∀ {bs : List (Str × Value)} {m : Str → Option Value} {n : Str} {v : Value} {i : Nat}, (bs.map (·.1)).Nodup → bs[i]? = some (n, v) → kf n = some .cell → bindC kf bs m n = some v
  | (a, w) :: r, m, n, v, 0, hn, e, hk => by
    simp only [List.getElem?_cons_zero, Option.some.injEq, Prod.mk.injEq] at e
    obtain ⟨rfl, rfl⟩ := e
    simp only [List.map_cons, List.nodup_cons] at hn
    unfold bindC
    rw [Zkd hn.1, if_neg (by rw [hk]; simp)]; simp
  | (a, w) :: r, m, n, v, i + 1, hn, e, hk => by
    simp only [List.getElem?_cons_succ] at e
    simp only [List.map_cons, List.nodup_cons] at hn
    unfold bindC
    exact Zke hn.2 e hk
noncomputable def fnOk (K : Frag) (P : Pg) (a : Addr) (F : Fn) : Bool := match K.lookup a with
  | some o => (match o.data with
    | .func fd => (match fd.body with
      | .stmts body => fd.globals == mainGlobals && fd.builtins == builtinsNs && fd.closure.isEmpty && fd.defaults == .none && fd.params.posonlyargs.isEmpty && fd.params.vararg.isNone && fd.params.kwonlyargs.isEmpty && fd.params.kwarg.isNone &&
          !fd.scope.isCoroutine && !fd.scope.isGenerator && fd.scope.kind == .function && codeIn K fd.code fd.qualname && (fd.params.args.map (·.arg)) == (F.slots.map Str.ofString).take F.npar && decide (F.npar ≤ F.slots.length) && decide ((F.slots.map Str.ofString).Nodup) &&
          (F.slots.map Str.ofString).all (fun n => match fd.scope.names.lookup n with | some .local => true | some .cell => ((cellsFrom 0 fd.scope.names []).lookup n).isSome | _ => false) && decide ((cellsFrom 0 fd.scope.names []).map (·.1)).Nodup &&
          mtSs P fd.scope (F.slots.map Str.ofString) F.body body
      | _ => false)
    | _ => false)
  | none => false
theorem Zfk {l : List (Str × Addr)} {n : Str} : (l.lookup n).isSome = (l.map (·.1)).contains n := by
  induction l with
  | nil => rfl
  | cons a r ih =>
    obtain ⟨k, v⟩ := a
    simp only [List.lookup_cons, List.map_cons, List.contains_cons]
    cases hb : n == k with
    | true => simp
    | false => simp [ih]
noncomputable def Ze6 (F : Fn) (args : List AV) : VV := args.map some ++ List.replicate (F.slots.length - F.npar) none
set_option tactic.hygienic true in
theorem Znl {c : Cx} {mg mb : Str → Option Value} (C : c.Ok mg mb) (PO : PgOk c) {n : Nat} {md : Bool} {f : String} {F : Fn} (hok : fnOk c.K c.P (c.fa f) F = true) {args : List AV} {Q : AV → Zaa → Prop} {E : String → Zaa → Prop} {H : Zaa} (hlen : args.length = F.npar)
    (q : wpSs ⟨c, n, md⟩ F.body (fun _ H => Q .none H) Q (fun cl _ H => E cl H) (Ze6 F args) H) : CallOK c (n + 1) md f args Q E H := by
  intro A stk R s vals Rs aok stkok S hv kQ kE
  unfold fnOk at hok
  split at hok
  · rename_i o ho
    split at hok
    · rename_i fd hd
      split at hok
      · rename_i body hb
        simp only [Bool.and_eq_true, beq_iff_eq, List.isEmpty_iff, Option.isNone_iff_eq_none, Bool.not_eq_true', decide_eq_true_eq] at hok
        obtain ⟨⟨⟨⟨⟨⟨⟨⟨⟨⟨⟨⟨⟨⟨⟨⟨⟨c1, c2⟩, c3⟩, c4⟩, c5⟩, c6⟩, c7⟩, c8⟩, c9⟩, c10⟩, c11⟩, c12⟩, c13⟩, c14⟩, c15⟩, c16⟩, c17⟩, c18⟩ := hok
        have X := C.kin.keeps S.stays
        have hvl := hv.length
        have hpl : fd.params.args.length = F.npar := by
          have := congrArg List.length c13
          simp only [List.length_map, List.length_take] at this
          lia
        have hpn : (fd.params.args.map (·.arg)).Nodup := by rw [c13]; exact c15.sublist (List.take_sublist _ _)
        have hzl : (fd.params.args.map (·.arg)).length = vals.length := by simp; lia
        have hmem : ∀ x ∈ (fd.params.args.map (·.arg)).zip vals, x.1 ∈ F.slots.map Str.ofString := by
          rintro ⟨a, b⟩ hx
          have := (List.of_mem_zip hx).1
          rw [c13] at this
          exact List.mem_of_mem_take this
        have hkinds : ∀ n ∈ F.slots.map Str.ofString, fd.scope.names.lookup n = some .local ∨ (fd.scope.names.lookup n = some .cell ∧ ((cellsFrom 0 fd.scope.names []).lookup n).isSome = true) := by
          intro n hn
          have := List.all_eq_true.mp c16 n hn
          split at this
          · exact .inl (by assumption)
          · exact .inr ⟨by assumption, this⟩
          · cases this
        have hcs : ∀ (k : Nat) n, ((cellsFrom k fd.scope.names []).lookup n).isSome = ((cellsFrom 0 fd.scope.names []).lookup n).isSome := by
          intro k n
          rw [Zfk, Zfk, cellsFrom_names fd.scope.names 0 k [] [] rfl]
        have hnodup : ∀ k : Nat, ((cellsFrom k fd.scope.names []).map (·.1)).Nodup := fun k => by rw [← cellsFrom_names fd.scope.names 0 k [] [] rfl]; exact c17
        refine codeAny_call_function (by have := aok.depth; lia) (X _ _ ho) hd c9 c10 hb (codeRec_of X c12) (Znn c5 c6 c7 c8 c4 hpn (by lia) _ _ _ _ ?_)
        rw [c3]
        refine wpAny_newFunctionEnv_cells c11 (fun x hx => ?_) fun env he s₁ x => ?_
        · rcases hkinds x.1 (hmem x hx) with h | ⟨h1, h2⟩
          · exact .inl h
          · exact .inr ⟨h1, by rw [hcs]; exact h2⟩
        subst he
        refine ⟨(C.nolimit.keeps S.stays).keeps x.toInCall.keep, codeAny_func ?_⟩
        generalize henv : newEnv fd.scope s.heap.objs.size fd.globals (cellsFrom (s.heap.objs.size + 1) fd.scope.names []) (fd.qualname ++ ".<locals>.") (some (c.fa f)) fd.code none fd.builtins = env at x ⊢
        have el : env.locals = s.heap.objs.size := by rw [← henv]; rfl
        have es : env.scope = fd.scope := by rw [← henv]; rfl
        have ec : env.cells = cellsFrom (s.heap.objs.size + 1) fd.scope.names [] := by rw [← henv]; rfl
        have eg : env.globals = mainGlobals := by rw [← henv]; exact c1
        have eb : env.builtins = builtinsNs := by rw [← henv]; exact c2
        have ef : env.frame = some env.locals := by rw [← henv]; rfl
        have ek : ∀ n, env.kindOf n = fd.scope.names.lookup n := fun n => by unfold Env.kindOf; rw [es]
        generalize hm : bindL env.kindOf ((fd.params.args.map (·.arg)).zip vals) (fun _ => none) = m at x
        generalize hcm : bindC env.kindOf ((fd.params.args.map (·.arg)).zip vals) (fun _ => none) = cm at x
        have hkeep := x.toInCall.keep
        have hLlt : @LT.lt Nat _ env.locals s₁.heap.objs.size := by obtain ⟨oL, _, _, w, _⟩ := x.toInCall.ns; exact lts w
        have hsz : s.heap.objs.size ≤ s₁.heap.objs.size := by rw [el] at hLlt; exact Nat.le_of_lt hLlt
        have habove : ∀ p ∈ env.cells, @LT.lt Nat _ s.heap.objs.size p.2 := fun p hp => by
          have := x.above p.1 p.2 hp
          rw [el] at this; exact this
        let R' : RR := fun b => if b = env.locals then some (.ns m) else match env.cells.find? (fun p => p.2 == b) with
          | some p => some (.cell (cm p.1))
          | none => R b
        have hL : R' env.locals = some (.ns m) := by show (if _ then _ else _) = _; rw [if_pos rfl]
        have hcell : ∀ n a, env.cells.lookup n = some a → R' a = some (.cell (cm n)) := fun n a h => by
          have hmem := mem_of_lookup h
          have hlt := habove _ hmem
          show (if _ then _ else _) = _
          rw [if_neg (fun z => by rw [z, el] at hlt; exact Nat.lt_irrefl _ hlt)]
          cases hf : env.cells.find? (fun p => p.2 == a) with
          | none =>
            have := List.find?_eq_none.mp hf _ hmem
            simp at this
          | some p =>
            have h1 := List.mem_of_find?_eq_some hf
            have h2 : p.2 = a := by have := List.find?_some hf; simpa using this
            have h3 : p.1 = n := name_of_addr x.apart (c := a) (by rw [← h2]; exact h1) hmem
            simp only [h3]
        have hlk : ∀ p ∈ env.cells, env.cells.lookup p.1 = some p.2 := fun p hp => by
          have hn' : (env.cells.map (·.1)).Nodup := by rw [ec]; exact hnodup _
          exact lookup_of_mem_nodup hn' hp
        have hR : ∀ b, R' b = R b ∨ (s.heap.objs.size ≤ b ∧ ∃ r, R' b = some r ∧ ResAt s₁.heap b r) := fun b => by
          by_cases z : b = env.locals
          · subst z; exact .inr ⟨by rw [el]; exact Nat.le_refl _, _, hL, x.toInCall.ns⟩
          · cases hf : env.cells.find? (fun p => p.2 == b) with
            | none => left; show (if _ then _ else _) = _; rw [if_neg z, hf]
            | some p =>
              have h1 := List.mem_of_find?_eq_some hf
              have h2 : p.2 = b := by have := List.find?_some hf; simpa using this
              subst h2
              have hl := hlk p h1
              exact .inr ⟨Nat.le_of_lt (habove p h1), _, hcell _ _ hl, x.cell _ _ hl⟩
        have hold : ∀ b r, R b = some r → R' b = some r := fun b r e => by
          rcases hR b with h | ⟨h, _⟩
          · rw [h]; exact e
          · obtain ⟨ob, w⟩ := (S.res b r e).2.there
            have := lts w; have := leN h; lia
        have S₁ : St c R' H s₁.heap := S.news hkeep hsz hR
        have hlen2 : (Ze6 F args).length = F.slots.length := by unfold Ze6; simp; lia
        have hget : ∀ (i : Nat) n, (F.slots.map Str.ofString)[i]? = some n → ∃ v, (Ze6 F args)[i]? = some v ∧ ∀ (y : Option Value), (∀ w, ((fd.params.args.map (·.arg)).zip vals)[i]? = some (n, w) → y = some w) → OVW v y := fun i n hn => by
          have hi : i < F.slots.length := by have := (List.getElem?_eq_some_iff.mp hn).1; simpa using this
          by_cases z : i < F.npar
          · obtain ⟨av, hav⟩ : ∃ av, args[i]? = some av := ⟨args[i], by simp [hlen, z]⟩
            obtain ⟨w, hw, hvr⟩ := hv.get hav
            refine ⟨some av, by unfold Ze6; rw [List.getElem?_append_left (by simp; lia)]; simp [hav], fun y hy => ?_⟩
            have hp : (fd.params.args.map (·.arg))[i]? = some n := by rw [c13, List.getElem?_take_of_lt z]; exact hn
            rw [hy w (by rw [List.getElem?_zip_eq_some]; exact ⟨hp, hw⟩)]
            exact .some hvr
          · refine ⟨none, ?_, fun y _ => .none⟩
            unfold Ze6
            rw [List.getElem?_append_right (by simp; lia), List.getElem?_replicate]
            rw [if_pos (by simp; lia)]
        have hzn : (((fd.params.args.map (·.arg)).zip vals).map (·.1)).Nodup := by rw [List.map_fst_zip (by lia)]; exact hpn
        have fr : Frm R' env fd.scope (F.slots.map Str.ofString) (Ze6 F args) := by
          refine ⟨by rw [es]; exact c11, eg, eb, fun id h => ?_, fun id h => ?_, fun id h => ?_, fun id h => by rw [ek]; exact h, fun id h => by rw [ek]; exact h, by rw [hlen2, List.length_map], fun n n' a h h' => name_of_addr x.apart (mem_of_lookup h) (mem_of_lookup h'), ⟨m, hL, fun i n hn hk => ?_⟩, fun i n hn hk => ?_⟩
          · rw [ek]; simpa [Zl7] using h
          · rw [ek]; unfold Zib at h; split at h <;> simp_all
          · rw [ek]; unfold Zdm at h; split at h <;> simp_all
          · obtain ⟨v, h1, h2⟩ := hget i n hn
            exact ⟨v, h1, h2 _ fun w hw => by rw [← hm]; exact Zkc hzn hw hk⟩
          · obtain ⟨v, h1, h2⟩ := hget i n hn
            rcases hkinds n (List.mem_of_getElem? hn) with z | ⟨z1, z2⟩
            · rw [ek, z] at hk; rcases hk with hk | hk <;> cases hk
            · obtain ⟨a, ha⟩ := Option.isSome_iff_exists.mp (show (env.cells.lookup n).isSome = true by rw [ec, hcs]; exact z2)
              exact ⟨a, _, v, ha, hcell n a ha, h1, h2 _ fun w hw => by rw [← hcm]; exact Zke hzn hw (by rw [ek]; exact z1)⟩
        have ev : Ev ⟨c, n, md⟩ (A.deeper env) R' env stk := by
          refine ⟨⟨?_, ?_, ?_, aok.hand⟩, fun e he => ?_⟩
          · show A.frames.map (env :: ·) = _; rw [aok.frames]; rfl
          · have := aok.depth; show A.depth + 1 + 110 + 4 + 8 * n < _; lia
          · have := aok.units; show A.units + 3 + 100 + 10 * 4 + 60 * n < _; lia
          · rcases List.mem_cons.mp he with rfl | he
            · exact ⟨by rw [es]; exact c11, ef, by rw [es]; exact c10, by rw [es]; exact c9, eb, eg, m, hL⟩
            · have G := stkok e he
              obtain ⟨mm, hmm⟩ := G.ns
              exact ⟨G.kind, G.frame, G.gen, G.co, G.blt, G.glob, mm, hold _ _ hmm⟩
        have sm : Sm s s₁ := x.toInCall.same
        have back : ∀ {R₂ : RR}, RStep env R' R₂ → ∀ b r, R b = some r → R₂ b = some r := fun {R₂} r b y e => by
          have hlt : @LT.lt Nat _ b s.heap.objs.size := by obtain ⟨ob, w⟩ := (S.res b y e).2.there; exact lts w
          rcases r b with h | ⟨h, _⟩ | ⟨⟨nn, h⟩, _⟩
          · rw [h]; exact hold b y e
          · rw [h, el] at hlt; exact absurd hlt (Nat.lt_irrefl _)
          · have := habove _ (mem_of_lookup h); exact absurd (Nat.lt_trans hlt this) (Nat.lt_irrefl _)
        refine wpAny_mono (sSs (g := ⟨c, n, md⟩) C PO c15 F.body body c18 md (A.deeper env) env stk R' (Ze6 F args) s s₁ H _ Q _ ev fr S₁ sm q) (fun fl s₂ z => ?_) fun e s₂ z => ?_
        · cases fl with
          | next =>
            obtain ⟨R₂, V2, H₂, r₂, _, S2, m₂, q₂⟩ := z
            exact kQ .none .none s₂ H₂ .none (S2.weaken (back r₂)) m₂ q₂
          | ret v =>
            obtain ⟨R₂, av, H₂, r₂, hv2, S2, m₂, q₂⟩ := z
            exact kQ av v s₂ H₂ hv2 (S2.weaken (back r₂)) m₂ q₂
          | brk => exact z.elim
          | cont => exact z.elim
        · obtain ⟨a, cl, R₂, V2, H₂, fl, rfl, r₂, f₂, hfl, X2, m₂, q₂⟩ := z
          refine Zps ev.aok.frames (r₂.stk ev.stk) X2 hfl fun h' X3 => ?_
          exact kE a cl _ H₂ (X3.weaken (back r₂)) (m₂.heap h') q₂
      · cases hok
    · cases hok
  · cases hok
end Mine
end
section
open PySem PySem.W PyProof.Rows PySem.Spec PySem.SeqAt PySem.Calls
namespace Mine
noncomputable def Zqh (v : Option (Option Value)) : Addr := match v with
  | some (some (.ref a)) => a
  | _ => 0
noncomputable def caOf (K : Frag) (cl : String) : Addr := Zqh (nsIn K mainGlobals (Str.ofString cl))
noncomputable def faOf (K : Frag) (P : Pg) (f : String) : Addr := match P.meths.find? (fun p => p.1 ++ "." ++ p.2 == f) with
  | some (cl, m) => Zqh (findIn K (.ref (caOf K cl)) (Str.ofString m))
  | none => Zqh (nsIn K mainGlobals (Str.ofString f))
noncomputable def vrB (a : AV) (v : Value) : Bool := match a with
  | .none => v == .none
  | .bool a => v == .bool a
  | .int a => if h : v.ctorIdx = 4 then Value.int.elim (motive := fun _ => Bool) v h fun b _ => b == a else false
  | .str a => if h : v.ctorIdx = 6 then Value.str.elim (motive := fun _ => Bool) v h fun b _ => b == a && PyData.strOk b else false
  | .ref _ => false
theorem Zw0 {a : AV} {v : Value} (h : vrB a v = true) : VR a v := by
  cases a with
  | none => rw [eq_of_beq h]; exact .none
  | bool b => rw [eq_of_beq h]; exact .bool b
  | int i => exact (dn h).elim fun q z => Value.int.elim (motive := fun v => ∀ q, Value.int.elim (motive := fun _ => Bool) v q (fun b _ => b == i) = true → VR (.int i) v) v q (fun b t _ z => eq_of_beq z ▸ .int b t) q z
  | str x => exact (dn h).elim fun q z => Value.str.elim (motive := fun v => ∀ q, Value.str.elim (motive := fun _ => Bool) v q (fun b _ => b == x && PyData.strOk b) = true → VR (.str x) v) v q (fun b t _ z => eq_of_beq (and2 z).1 ▸ .str b t (and2 z).2) q z
  | ref p => exact Bool.noConfusion h
noncomputable def okFn (K : Frag) (P : Pg) : Bool := P.gfns.all fun f => nsIn K mainGlobals (Str.ofString f) == some (some (.ref (faOf K P f))) && keepIn K (.ref (faOf K P f))
noncomputable def Zxl (K : Frag) (P : Pg) : Bool := P.classes.all fun cl => nsIn K mainGlobals (Str.ofString cl) == some (some (.ref (caOf K cl))) && keepIn K (.ref (caOf K cl)) && makesIn K (caOf K cl) &&
  findIn K (.ref (caOf K cl)) "__init__" == some (some (.ref (faOf K P (cl ++ ".__init__")))) && isFn K (.ref (faOf K P (cl ++ ".__init__")))
noncomputable def Zvo (K : Frag) (P : Pg) : Bool := P.meths.all fun p => plainGet K (caOf K p.1) (Str.ofString p.2) && findIn K (.ref (caOf K p.1)) (Str.ofString p.2) == some (some (.ref (faOf K P (p.1 ++ "." ++ p.2)))) &&
  isFn K (.ref (faOf K P (p.1 ++ "." ++ p.2))) && keepIn K (.ref (faOf K P (p.1 ++ "." ++ p.2)))
noncomputable def Zvp (K : Frag) (P : Pg) : Bool := P.attrs.all fun p => plainGet K (caOf K p.1) (Str.ofString p.2) && hasDictIn K (caOf K p.1) && findIn K (.ref (caOf K p.1)) (Str.ofString p.2) == some none &&
  findIn K (.ref (caOf K p.1)) "__setattr__" == some (some (.builtin "object.__setattr__")) && plainOver K (caOf K p.1) && takerIn K (caOf K p.1) (Str.ofString p.2) == some none
noncomputable def Zvn (K : Frag) (P : Pg) : Bool := P.prims.all fun f => nsIn K mainGlobals (Str.ofString f) == some none && !(Str.ofString f == Str.ofString "__name__") && bootBuiltins (Str.ofString f) == some (Zgs f)
noncomputable def okG (K : Frag) (P : Pg) (cl : String) : Bool := findIn K (.ref (caOf K cl)) "__getattribute__" == some (some (.builtin "BaseException.__getattribute__")) && findIn K (.ref (caOf K cl)) "__getattr__" == some none && findIn K (.ref (caOf K cl)) "__class__" == some (some (.builtin "object.__class__")) &&
  specialIn K (.builtin "object.__class__") "__get__" == some (some (.builtin "getset_descriptor.__get__")) && takesIn K (.builtin "object.__class__") == some true && mroIn K (caOf K cl) (.type "object") == some true && Zdj P cl cl
noncomputable def Zxk (K : Frag) (P : Pg) : Bool := P.excs.all fun p => p.2.all (fun ty => !P.prims.contains ty || (ty == "ValueError" && subIn K (.ref (caOf K p.1)) (.type ty) == some true)) &&
  nsIn K mainGlobals (Str.ofString p.1) == some (some (.ref (caOf K p.1))) && excIn K (caOf K p.1) veM "ValueError.__new__" && instIn K (.ref (caOf K p.1)) (.type "tuple") == some false && subIn K (.ref (caOf K p.1)) (.type "BaseException") == some true &&
  (clsIn K (caOf K p.1)).isSome && typeIn K (.ref (caOf K p.1)) == some (.type "type") && instIn K (.ref (caOf K p.1)) (.type "type") == some true && !typeNames.contains p.1 && (P.excs.all fun q => subIn K (.ref (caOf K p.1)) (.ref (caOf K q.1)) == some (Zdj P p.1 q.1)) && okG K P p.1
noncomputable def Ztn (K : Frag) (P : Pg) : Bool := P.consts.all fun p => match nsIn K mainGlobals (Str.ofString p.1) with
  | some (some x) => vrB p.2 x
  | _ => false
noncomputable def Zxj (K : Frag) (P : Pg) : Bool := P.fns.all fun p => fnOk K P (faOf K P p.1) p.2
noncomputable def Zm7 (K : Frag) (P : Pg) : Bool := okFn K P && Zxl K P && Zvo K P && Zvp K P && Zvn K P && Zxk K P && Ztn K P && Zxj K P
theorem Zcg {α : Type} : ∀ {l : List (String × α)} {n : String} {c : α}, l.lookup n = some c → (n, c) ∈ l
  | (k, v) :: r, n, c, h => by
    rw [List.lookup_cons] at h
    cases hb : n == k with
    | true => rw [hb] at h; cases h; rw [beq_iff_eq.mp hb]; exact List.mem_cons_self
    | false => rw [hb] at h; exact List.mem_cons_of_mem _ (Zcg h)
noncomputable def cxOf (prog : Program) (w : World) (K : Frag) (base : Heap) (P : Pg) : Cx := ⟨prog, w, K, base, P, faOf K P, caOf K⟩
theorem Zdu {α : Type} {l : List α} {p : α → Bool} (h : l.all p = true) {a : α} (m : a ∈ l) : p a = true := List.all_eq_true.mp h a m
theorem Zf7 {α : Type} [BEq α] [LawfulBEq α] {l : List α} {a : α} (h : l.contains a = true) : a ∈ l := List.contains_iff_mem.mp h
theorem Zqu {α : Type} {o : Option (List String)} {ty : String} (h : (o.map (·.contains ty)).getD false = true) : ∃ l, o = some l ∧ ty ∈ l := by
  cases o with
  | none => cases h
  | some l => exact ⟨l, rfl, Zf7 h⟩
set_option tactic.hygienic true in
theorem Ztj {prog : Program} {w : World} {K : Frag} {base : Heap} {P : Pg} (h : Zm7 K P = true) : PgOk (cxOf prog w K base P) ∧ ∀ f F, P.fns.lookup f = some F → fnOk K P (faOf K P f) F = true := by
  have g8 := and2 h; have g7 := and2 g8.1; have g6 := and2 g7.1; have g5 := and2 g6.1; have g4 := and2 g5.1; have g3 := and2 g4.1; have g2 := and2 g3.1
  refine ⟨⟨fun f hf => ?_, fun cl hf => ?_, fun cl m hf => ?_, fun cl n hf => ?_, fun f hf => ?_, fun cl ty hf ht => ?_, fun cl hf => ?_, fun cl d hc hd => ?_, fun cl hf => ?_, fun n v hf => ?_⟩, fun f F hf => Zdu g8.2 (Zcg hf)⟩
  · have z := and2 (Zdu g2.1 (Zf7 hf))
    exact ⟨eq_of_beq z.1, z.2⟩
  · have a5 := and2 (Zdu g2.2 (Zf7 hf)); have a4 := and2 a5.1; have a3 := and2 a4.1; have a2 := and2 a3.1
    exact ⟨eq_of_beq a2.1, a2.2, a3.2, eq_of_beq a4.2, a5.2⟩
  · have a4 := and2 (Zdu g3.2 (Zf7 hf)); have a3 := and2 a4.1; have a2 := and2 a3.1
    exact ⟨a2.1, eq_of_beq a2.2, a3.2, a4.2⟩
  · have a6 := and2 (Zdu g4.2 (Zf7 hf)); have a5 := and2 a6.1; have a4 := and2 a5.1; have a3 := and2 a4.1; have a2 := and2 a3.1
    exact ⟨a2.1, a2.2, eq_of_beq a3.2, eq_of_beq a4.2, a5.2, eq_of_beq a6.2⟩
  · have a3 := and2 (Zdu g5.2 (Zf7 hf)); have a2 := and2 a3.1
    exact ⟨eq_of_beq a2.1, not1 a2.2, eq_of_beq a3.2⟩
  · obtain ⟨l, hl, hm⟩ := Zqu (α := Nat) hf
    have a11 := and2 (Zdu g6.2 (Zcg hl)); have a10 := and2 a11.1; have a9 := and2 a10.1; have a8 := and2 a9.1; have a7 := and2 a8.1; have a6 := and2 a7.1; have a5 := and2 a6.1; have a4 := and2 a5.1; have a3 := and2 a4.1; have a2 := and2 a3.1
    have q := Zdu a2.1 hm
    rw [show P.prims.contains ty = true from ht] at q
    exact ⟨eq_of_beq (and2 q).1, eq_of_beq (and2 q).2⟩
  · obtain ⟨l, hl⟩ := Option.isSome_iff_exists.mp hf
    have a11 := and2 (Zdu g6.2 (Zcg hl)); have a10 := and2 a11.1; have a9 := and2 a10.1; have a8 := and2 a9.1; have a7 := and2 a8.1; have a6 := and2 a7.1; have a5 := and2 a6.1; have a4 := and2 a5.1; have a3 := and2 a4.1; have a2 := and2 a3.1
    exact ⟨eq_of_beq a2.2, a3.2, eq_of_beq a4.2, eq_of_beq a5.2, a6.2, eq_of_beq a7.2, eq_of_beq a8.2, not1 a9.2⟩
  · obtain ⟨l, hl⟩ := Option.isSome_iff_exists.mp hc
    obtain ⟨l', hl'⟩ := Option.isSome_iff_exists.mp hd
    exact eq_of_beq (Zdu (and2 (and2 (Zdu g6.2 (Zcg hl))).1).2 (Zcg hl'))
  · obtain ⟨l, hl⟩ := Option.isSome_iff_exists.mp hf
    have a7 := and2 (and2 (Zdu g6.2 (Zcg hl))).2; have a6 := and2 a7.1; have a5 := and2 a6.1; have a4 := and2 a5.1; have a3 := and2 a4.1; have a2 := and2 a3.1
    exact ⟨eq_of_beq a2.1, eq_of_beq a2.2, eq_of_beq a3.2, eq_of_beq a4.2, eq_of_beq a5.2, eq_of_beq a6.2, a7.2⟩
  · have q := Zdu g7.2 (Zcg hf)
    dsimp only at q
    split at q
    · rename_i x hx; exact ⟨x, hx, Zw0 q⟩
    · cases q
noncomputable def Ze0 (p : Addr) (ns : List Int) : Zaa := fun a => if a = p then some (.script ns) else none
theorem Ztz {vs : List Value} {ns : List Int} (h : IntsAre vs ns) : VRs (ns.map AV.int) vs := by
  induction h with
  | nil => exact .nil
  | cons n t _ ih => exact .cons (.int n t) ih
set_option tactic.hygienic true in
theorem enter {prog : Program} {w : World} {K : Frag} {P : Pg} {mg mb : Str → Option Value} {p : Program} {loose : List Str} {mean : ExcName → Option Value} {s₁ : Shared} {fa sp : Addr} {vs : List Value} {ns : List Int} {n : Nat} {E : Value → Shared → Prop} {Q : Value → Shared → Prop} {nl : Str}
    (hn : n ≤ 50) (KX : K.In s₁.heap) (T : Top p loose mean mg mb s₁.heap) (hseer : s₁.heap.NoSeer) (htree : prog.given.tree = none) (hnl : nl = Str.ofString "law") (hmg : mg nl = some (.ref fa)) (hok : Zm7 K P = true) (hlaw : P.gfns.contains "law" = true)
    (hget : s₁.heap.get? sp = some { cls := .type "list", data := .seq vs.toArray }) (hI : IntsAre vs ns)
    (hcall : ∀ c : Cx, c.P = P → c.Ok mg mb → PgOk c → (∀ f F, P.fns.lookup f = some F → fnOk c.K P (c.fa f) F = true) → CallOK c n true "law" [.ref sp] (fun v _ => v = .bool true) (fun _ _ => False) (Ze0 sp ns))
    (hq : ∀ s', s₁.heap.StaysIn s'.heap → s'.os = s₁.os → s'.gens = s₁.gens → Q (.bool true) s') : wpAny (model prog w) callerA (call (.ref fa) [.ref sp]) Q E s₁ := by
  obtain ⟨PO, FO⟩ := Ztj (prog := prog) (w := w) (base := s₁.heap) hok
  have C : (cxOf prog w K s₁.heap P).Ok mg mb := ⟨KX, T.g, T.b, T.nolimit, T.builtins, hseer, htree, p, loose, topRead_of T⟩
  have hfa : fa = (cxOf prog w K s₁.heap P).fa "law" := by
    have h1 := (PO.fn "law" hlaw).1
    have h2 := mg_of KX T.g h1
    rw [← hnl, hmg] at h2
    exact Value.ref.inj (Option.some.inj h2)
  have S : St (cxOf prog w K s₁.heap P) (fun _ => none) (Ze0 sp ns) s₁.heap := by
    have hs : ∀ a o, Ze0 sp ns a = some o → a = sp ∧ o = .script ns := fun a o e => by
      unfold Ze0 at e
      split at e
      · rename_i z; cases e; exact ⟨z, rfl⟩
      · cases e
    refine ⟨_, (?_ : St1 _ _ (Ze0 sp ns) _), Real.raw fun a o e => by rw [(hs a o e).2]; rfl⟩
    refine ⟨fun _ _ e => e, Nat.le_refl _, fun _ _ e => (by cases e), fun _ => 0, ⟨fun a o e => ?_, fun a o e => ?_, fun a cl es e => ?_, fun a b cl es cl' es' e => ?_⟩⟩
    · obtain ⟨rfl, rfl⟩ := hs a o e
      exact ⟨vs, 0, hget, Ztz hI⟩
    · obtain ⟨rfl, rfl⟩ := hs a o e
      exact ⟨⟨fun w => (by cases w), fun w => (by cases w)⟩, rfl⟩
    · cases (hs a _ e).2
    · cases (hs a _ e).2
  rw [hfa]
  refine wpAny_call (hcall _ rfl C PO FO callerA [] (fun _ => none) s₁ [.ref sp] _ ⟨rfl, ?_, ?_, fun _ => rfl⟩ (fun e he => by cases he) S (.cons (.ref sp) .nil) ?_ ?_)
  · show 1 + 300 + 110 + 0 + 8 * n < 1000; omega
  · show 4 + 100 + 10 * 0 + 60 * n < 9900; omega
  · rintro av v s' H' hv S' m rfl
    cases hv
    obtain ⟨h, tk, rfl⟩ := m
    exact hq _ S'.stays rfl rfl
  · rintro e cl s' H' _ _ h; exact h.elim
end Mine
end
section
open PySem PySem.W PyProof.Rows PySem.Spec PySem.SeqAt PySem.Calls
namespace Mine
structure Gd (c : Cx) (P : Pg) : Prop where
  hP : c.P = P
  ok : ∃ mg mb, c.Ok mg mb
  pg : PgOk c
  fn : ∀ f F, P.fns.lookup f = some F → fnOk c.K P (c.fa f) F = true
theorem Gd.call {c : Cx} {P : Pg} (G : Gd c P) {n : Nat} {md : Bool} {f : String} {F : Fn} (hf : P.fns.lookup f = some F) {args : List AV} {Q : AV → Zaa → Prop} {E : String → Zaa → Prop} {H : Zaa} (hlen : args.length = F.npar)
    (q : wpSs ⟨c, n, md⟩ F.body (fun _ H => Q .none H) Q (fun cl _ H => E cl H) (Ze6 F args) H) : CallOK c (n + 1) md f args Q E H := by
  obtain ⟨mg, mb, C⟩ := G.ok
  have := G.fn f F hf
  rw [← G.hP] at this
  exact Znl C G.pg this hlen q
section
variable {Q : AV → Zaa → Prop} {H : Zaa} {x y : Int} {a b : Str}
theorem Zb8 : wbin .Add (.int x) (.int y) Q H = Q (.int (x + y)) H := rfl
theorem Zdd : wbin .Sub (.int x) (.int y) Q H = Q (.int (x - y)) H := rfl
theorem Zet : wbin .Mult (.int x) (.int y) Q H = (IntMulOk x y ∧ Q (.int (x * y)) H) := rfl
theorem Zcj : wbin .FloorDiv (.int x) (.int y) Q H = (y ≠ 0 ∧ Q (.int (x.fdiv y)) H) := rfl
theorem Zbu : wbin .Mod (.int x) (.int y) Q H = (y ≠ 0 ∧ Q (.int (x.fmod y)) H) := rfl
theorem Zdb : wbin .Pow (.int x) (.int y) Q H = ((2 ≤ x ∧ 1 ≤ y ∧ Builtin.Int.intTooBig (((Builtin.Int.intBits x : Nat) : Int) * y) = false) ∧ Q (.int (x ^ y.toNat)) H) := rfl
theorem Zdk : wbin .Add (.str a) (.str b) Q H = (a.length + b.length ≤ sizeLine ∧ Q (.str (a ++ b)) H) := rfl
theorem c_lt : wcmp .Lt (.int x) (.int y) Q H = Q (.bool (decide (x < y))) H := rfl
theorem c_le : wcmp .LtE (.int x) (.int y) Q H = Q (.bool (decide (x ≤ y))) H := rfl
theorem c_gt : wcmp .Gt (.int x) (.int y) Q H = Q (.bool (decide (y < x))) H := rfl
theorem c_ge : wcmp .GtE (.int x) (.int y) Q H = Q (.bool (decide (y ≤ x))) H := rfl
theorem c_eq : wcmp .Eq (.int x) (.int y) Q H = Q (.bool (x == y)) H := rfl
theorem c_ne : wcmp .NotEq (.int x) (.int y) Q H = Q (.bool (x != y)) H := rfl
theorem Zci : wcmp .Eq (.str a) (.str b) Q H = Q (.bool (a == b)) H := rfl
theorem Zdp : wcmp .NotEq (.str a) (.str b) Q H = Q (.bool (a != b)) H := rfl
theorem c_in {u v : AV} : wcmp .In u v Q H = win false u v Q H := rfl
theorem Zdt {u v : AV} : wcmp .NotIn u v Q H = win true u v Q H := rfl
theorem Zai {H : Zaa} {P : Bool → Prop} {t : Bool} : Zbh (.bool t) H P = P t := rfl
theorem Ze9 {H : Zaa} {P : Bool → Prop} {i : Int} : Zbh (.int i) H P = P (i != 0) := rfl
theorem Zde {H : Zaa} {P : Bool → Prop} : Zbh .none H P = P false := rfl
end
theorem script_get {P : Params} {h : Heap} {sp : Addr} {xs : List PyData} {vs : List Value} (W : Well P h (.ref sp) (ofPy (.list xs))) (L : h.IsList sp vs.toArray) : h.get? sp = some { cls := .type "list", data := .seq vs.toArray } := by
  obtain ⟨o, ho, hc, n, hd⟩ := L
  rw [ofPy] at W
  cases W with
  | list h1 _ => rw [ho] at h1; cases h1; cases hd; exact ho
theorem scriptH_at {sp : Addr} {ns : List Int} : Ze0 sp ns sp = some (.script ns) := by unfold Ze0; rw [if_pos rfl]
end Mine
end
section
open PySem PySem.W PyProof.Rows
namespace Mine
noncomputable def Zuj (x : Obj) : BT → BT
  | .nil => .node x .nil .nil
  | .node y l r => .node x (Zuj y r) l
noncomputable def ofL : List Obj → BT
  | [] => .nil
  | x :: xs => Zuj x (ofL xs)
theorem get_odd {v : Obj} {l r : BT} {k : Nat} : (BT.node v l r).get (2 * k + 1) = l.get k := by
  rw [BT.get_node, if_neg (Nat.succ_ne_zero _), if_pos (by omega), show (2 * k + 1) / 2 = k by omega]
theorem get_even {v : Obj} {l r : BT} {k : Nat} : (BT.node v l r).get (2 * k + 2) = r.get k := by
  rw [BT.get_node, if_neg (Nat.succ_ne_zero _), if_neg (by omega), show (2 * k + 2) / 2 - 1 = k by omega]
theorem Zpm : ∀ i : Nat, i = 0 ∨ ∃ k, i = 2 * k + 1 ∨ i = 2 * k + 2
  | 0 => .inl rfl
  | 1 => .inr ⟨0, .inl rfl⟩
  | i + 2 => .inr (match Zpm i with
    | .inl h => ⟨0, .inr (congrArg (· + 2) h)⟩
    | .inr ⟨k, .inl h⟩ => ⟨k + 1, .inl (congrArg (· + 2) h)⟩
    | .inr ⟨k, .inr h⟩ => ⟨k + 1, .inr (congrArg (· + 2) h)⟩)
theorem Zjw : ∀ (t : BT) (x : Obj) (i : Nat), (Zuj x t).get i = if i = 0 then some x else t.get (i - 1)
  | .nil, x, i => by
    rcases Zpm i with rfl | ⟨k, rfl | rfl⟩
    · rfl
    · exact get_odd
    · exact get_even
  | .node y l r, x, i => by
    rcases Zpm i with rfl | ⟨k, rfl | rfl⟩
    · rfl
    · refine get_odd.trans ?_
      rw [Zjw r y, if_neg (Nat.succ_ne_zero _)]
      cases k with
      | zero => rfl
      | succ j => exact get_even.symm
    · exact get_even.trans (get_odd (v := y) (r := r)).symm
theorem Zpo : ∀ (l : List Obj) (i : Nat), (ofL l).get i = l[i]?
  | [], i => by simp [ofL, BT.get]
  | x :: xs, i => by
    unfold ofL
    rw [Zjw, Zpo xs]
    cases i with
    | zero => simp
    | succ n => simp
theorem Zun (h : Heap) : absHeap (ofL h.objs.toList) h.objs.size h.life = h := by
  obtain ⟨⟨l⟩, life⟩ := h
  unfold absHeap BT.list
  have : (List.range l.length).map (fun i => ((ofL l).get i).getD default) = l := by
    apply List.ext_getElem?
    intro i
    rw [List.getElem?_map]
    by_cases h : i < l.length
    · rw [List.getElem?_range h, Option.map_some, Zpo]
      simp [h]
    · rw [List.getElem?_eq_none (by simpa using h), List.getElem?_eq_none (by omega)]; rfl
  exact congrArg (fun x : List Obj => Heap.mk x.toArray life) this
noncomputable def Zgy (tb : String → Option Builtin) (p : Program) (w : World) (n₀ : Nat) (ann : Option Value) : Nat → SharedT → Thread → Option SharedT
  | 0, _, _ => none
  | n + 1, s, t => match through t with
    | true => some s
    | false => match stepOk n₀ ann t with
      | false => none
      | true => match stepT (denote tb) p w s t with
        | some (s', t') => Zgy tb p w n₀ ann n s' t'
        | none => none
theorem Zi9 {tb : String → Option Builtin} {p : Program} {w : World} {n₀ : Nat} {ann : Option Value} : ∀ {n : Nat} {s s' : SharedT} {t : Thread}, Zgy tb p w n₀ ann n s t = some s' → topRun tb p w n₀ ann n s.abs t = some s'.abs
  | 0, _, _, _, h => by cases h
  | n + 1, s, s', t, h => by
    unfold Zgy at h
    unfold topRun
    cases he : through t with
    | true => rw [he] at h; cases h; rfl
    | false =>
      rw [he] at h
      cases hk : stepOk n₀ ann t with
      | false => rw [hk] at h; cases h
      | true =>
        rw [hk] at h
        cases hs : stepT (denote tb) p w s t with
        | none => rw [hs] at h; cases h
        | some r => obtain ⟨s₂, t₂⟩ := r; rw [hs] at h; rw [stepT_spec hs]; exact Zi9 h
noncomputable def Zil (p : Program) (w : World) (n₀ : Nat) (ann : Option Value) : Nat → SharedT → Thread → Option SharedT
  | 0, _, _ => none
  | n + 1, s, t => match through t with
    | true => some s
    | false => match Fast.tw6613529449190102663 n₀ ann t with
      | false => none
      | true => match Fast.tw10156331382660048174 (Fast.tw11892475500146522536 Fast.tw14364793385576792824) p w s t with
        | some (s', t') => Zil p w n₀ ann n s' t'
        | none => none
theorem Zhx {p : Program} {w : World} {n₀ : Nat} {ann : Option Value} : ∀ (n : Nat) (s : SharedT) (t : Thread), Zil p w n₀ ann n s t = Zgy treeTable p w n₀ ann n s t
  | 0, _, _ => rfl
  | n + 1, s, t => by
    rw [Zil, Zgy, ← Fast.te6613529449190102663, ← Fast.te10156331382660048174, ← Fast.te11892475500146522536, ← Fast.te14364793385576792824]
    cases through t with
    | true => rfl
    | false =>
      cases stepOk n₀ ann t with
      | false => rfl
      | true =>
        cases stepT (denote treeTable) p w s t with
        | none => rfl
        | some r => exact Zhx n r.1 r.2
noncomputable def Zui (w : World) (os : OsState) : SharedT := ⟨ofL (boot_heap w.params).objs.toList, (boot_heap w.params).objs.size, (boot_heap w.params).life, Array.mk [], boot_drawn, boot_toks, os⟩
theorem Ztv {p q : Program} {loose : List Str} {Xt : Shared → Bool} {α : Type} {Yf : Shared → α} {YT : SharedT → α} {Ya : World → α} {N : Nat} {g0 : Bool} {ann : Option Value} {m0 : Nat} (hY : ∀ s, Yf s.abs = YT s)
    (e : opening p = plainProg p.main.scope.names) (hN : Nat.ble 600 N = true) (f : ∀ s, fenceModules? p s = some s)
    (size : ∀ w : World, ((boot_heap w.params).isNs mainGlobals, (boot_heap w.params).objs.size, (boot_heap w.params).nsMap mainGlobals "__annotations__") = (true, m0, ann))
    (run : ∀ (w : World) (os : OsState), (Zil p w m0 ann N (Zui w os) (topStub p)).map (fun s =>
      (staticsOk (importedModules p.main.body) (boot_heap w.params) s.abs.heap && namesBound p s.abs.heap && gensDone s.abs && laidKept (boot_heap w.params) s.abs.heap, Fast.tw4187177175401517315 q loose (importedModules p.main.body) Xt g0 s.abs, YT s)) = some (true, openGood q loose, Ya w)) :
    LeftO p q loose Xt Yf Ya N g0 := fun w => by
  obtain ⟨⟨h, gs, d, k, os⟩, e1, e2⟩ := Option.map_eq_some_iff.mp (boot_open e hN f w)
  obtain ⟨rfl, rfl, rfl, rfl⟩ : h = boot_heap w.params ∧ gs = Array.mk [] ∧ d = boot_drawn ∧ k = boot_toks := by simpa using e2
  obtain ⟨z1, z2, z3⟩ : _ ∧ _ ∧ _ := by simpa only [Prod.mk.injEq] using size w
  obtain ⟨s₁, r1, r2⟩ := Option.map_eq_some_iff.mp (run w os)
  obtain ⟨l1, l2, l3⟩ : _ ∧ _ ∧ _ := by simpa only [Prod.mk.injEq] using r2
  rw [Zhx] at r1
  rw [← Fast.te4187177175401517315] at l2
  have r3 := Zi9 r1
  have ab : (Zui w os).abs = ⟨boot_heap w.params, Array.mk [], boot_drawn, boot_toks, os⟩ := by
    unfold Zui SharedT.abs
    rw [Zun]
  rw [ab] at r3
  have t : topFrom treeTable p w N ⟨boot_heap w.params, Array.mk [], boot_drawn, boot_toks, os⟩ = some s₁.abs := by
    unfold topFrom
    dsimp only
    rw [z1, z2, z3, r3]
    show (match staticsOk (importedModules p.main.body) (boot_heap w.params) s₁.abs.heap && namesBound p s₁.abs.heap && gensDone s₁.abs && laidKept (boot_heap w.params) s₁.abs.heap with | true => _ | false => _) = _
    rw [l1]
  unfold openEnds
  rw [e1]
  show (topFrom treeTable p w N _).map _ = _
  rw [t]
  exact congrArg some (Prod.ext l2 ((hY s₁).trans l3))
end Mine
end
section
open PySem PySem.W PyProof.Rows PySem.Spec PySem.SeqAt PySem.Calls
namespace Mine
noncomputable def Zjz (h : Heap) (as : List Addr) : Frag := as.filterMap fun a => (h.get? a).map fun o => (a, o)
theorem Zpp {h : Heap} {as : List Addr} : (Zjz h as).In h := by
  intro a o e
  induction as with
  | nil => cases e
  | cons b r ih =>
    unfold Zjz at e ih
    rw [List.filterMap_cons] at e
    cases hb : h.get? b with
    | none => rw [hb] at e; exact ih e
    | some ob =>
      rw [hb] at e
      simp only [Option.map_some] at e
      rw [List.lookup_cons] at e
      cases hab : a == b with
      | true => rw [hab] at e; cases e; rw [beq_iff_eq.mp hab]; exact hb
      | false => rw [hab] at e; exact ih e
theorem Zsb {t : BT} {n : Nat} {life : Life} {a : Nat} : (absHeap t n life).get? a = if a < n then alive ((t.get a).getD default) else none := by
  unfold Heap.get?
  rw [absHeap_at]
  by_cases h : a < n
  · rw [if_pos h, if_pos h]
    generalize (t.get a).getD default = o
    obtain ⟨c, d, dt, sl⟩ := o
    cases dt <;> rfl
  · rw [if_neg h, if_neg h]
noncomputable def Zni (t : BT) (n : Nat) : List Addr → Frag
  | [] => []
  | a :: r => match Nat.blt a n with
    | true => (match alive ((t.get a).getD default) with
      | some o => (a, o) :: Zni t n r
      | none => Zni t n r)
    | false => Zni t n r
theorem Zmi {t : BT} {n : Nat} {life : Life} : ∀ {as : List Addr}, Zjz (absHeap t n life) as = Zni t n as
  | [] => rfl
  | a :: r => by
    have ih := Zmi (t := t) (n := n) (life := life) (as := r)
    unfold Zjz at ih ⊢
    rw [List.filterMap_cons, Zni, ih, Zsb]
    cases h : Nat.blt a n with
    | true =>
      rw [if_pos (show a < n from Nat.le_of_ble_eq_true h)]
      cases alive ((t.get a).getD default) <;> rfl
    | false =>
      rw [if_neg (fun q => by rw [show Nat.blt a n = true from Nat.ble_eq_true_of_le q] at h; cases h)]
      rfl
noncomputable def Zl3 (P : Pg) (as : List Addr) : Hook where
  α := Bool
  obs s := Zm7 (Zjz s.heap as) P
  val _ := true
  says _ h := ∃ K : Frag, K.In h ∧ Zm7 K P = true
  of _ s e := ⟨_, Zpp, e⟩
  keeps _ _ _ := fun ⟨K, a, b⟩ k => ⟨K, Frag.In.keeps a k, b⟩
theorem Zm8 {P : Pg} {as : List Addr} (s : SharedT) : (Zl3 P as).obs s.abs = Zm7 (Zni s.tree s.n as) P := congrArg (Zm7 · P) Zmi
end Mine
end
section
open PySem PySem.W PyProof.Rows PySem.Spec PySem.SeqAt PySem.Calls
namespace Mine
noncomputable def Gh (H H' : Zaa) : Prop := ∀ H₁, Real H H₁ → Real H' H₁
theorem Gh.refl {H : Zaa} : Gh H H := fun _ r => r
theorem Gh.less {H H' : Zaa} (k : ∀ a x, H' a = some x → H a = some x) : Gh H H' := fun _ r => r.less k
theorem St.gh {c : Cx} {R : RR} {H H' : Zaa} {h : Heap} (S : St c R H h) (g : Gh H H') : St c R H' h := let ⟨H₁, s, r⟩ := S; ⟨H₁, s, g H₁ r⟩
theorem ExcSt.gh {c : Cx} {R : RR} {H H' : Zaa} {e : Addr} {cl : String} {fl : Value} {h : Heap} (X : ExcSt c R H e cl fl h) (g : Gh H H') : ExcSt c R H' e cl fl h := let ⟨H₁, s, r⟩ := X; ⟨H₁, s, g H₁ r⟩
theorem CallOK.post {c : Cx} {n : Nat} {md : Bool} {f : String} {args : List AV} {Q Q' : AV → Zaa → Prop} {E E' : String → Zaa → Prop} {H : Zaa} (h : CallOK c n md f args Q E H) (k : ∀ v H, Q v H → ∃ H', Gh H H' ∧ Q' v H') (e : ∀ cl H, E cl H → ∃ H', Gh H H' ∧ E' cl H') : CallOK c n md f args Q' E' H :=
  fun A stk R s vals Rs a b d v p q => h A stk R s vals Rs a b d v (fun av v s' H' x y z w => let ⟨H'', g, w'⟩ := k _ _ w; p av v s' H'' x (y.gh g) z w') (fun ee cl s' H' x y z => let ⟨H'', g, w'⟩ := e _ _ z; q ee cl s' H'' (x.gh g) y w')
structure Fr1 (o : Addr → Option Role) (H : Zaa) (o' : Addr → Option Role) (H' : Zaa) : Prop where
  old : ∀ a x, H a = some x → o a = none → H' a = some x ∧ o' a = none
  gr : ∀ a, H' a = none → H a = none
theorem Zc3 {H : Zaa} {x a : Addr} {y : AObj} (h : up H x y a = none) : H a = none := by
  by_cases e : a = x
  · rw [e, Zad] at h; cases h
  · rw [Zab e] at h; exact h
theorem Fr1.refl {o : Addr → Option Role} {H : Zaa} : Fr1 o H o H := ⟨fun _ _ h k => ⟨h, k⟩, fun _ h => h⟩
theorem Fr1.trans {o o' o'' : Addr → Option Role} {H H' H'' : Zaa} (x : Fr1 o H o' H') (y : Fr1 o' H' o'' H'') : Fr1 o H o'' H'' := ⟨fun a z h k => y.old a z (x.old a z h k).1 (x.old a z h k).2, fun a h => x.gr a (y.gr a h)⟩
theorem Zbo {c : Cx} {n : Nat} {md : Bool} {f : String} {args : List AV} {Q : AV → Zaa → Prop} {E : String → Zaa → Prop} {H : Zaa} {b : Addr} {B : Bk} (hb : H b = some (.book B))
    (h : ∀ H₂ o f' s p as, IsBook o H₂ b f' s p as B → (∀ a x, H a = some x → a ≠ b → H₂ a = some x ∧ o a = none) →
      CallOK c n md f args
        (fun v H' => ∃ o' f' s p as B', IsBook o' H' b f' s p as B' ∧ Fr1 o H₂ o' H' ∧ ((∀ a, v ≠ .ref a) ∧ Q v (up H b (.book B')) ∨ ∃ z xs, v = .ref z ∧ H z = none ∧ H' z = some (.list xs) ∧ o' z = none ∧ Q v (up (up H b (.book B')) z (.list xs))))
        (fun cl H' => ∃ o' f' s p as B', IsBook o' H' b f' s p as B' ∧ Fr1 o H₂ o' H' ∧ E cl (up H b (.book B'))) H₂) : CallOK c n md f args Q E H := by
  intro A stk R s vals Rs a1 a2 S a4 kQ kE
  obtain ⟨H₁, S1, r⟩ := S
  obtain ⟨H₂, o, f', sa, p, as, r2, ib, hold⟩ := r.unpack hb
  have back : ∀ H' o' f' s p as B', IsBook o' H' b f' s p as B' → Fr1 o H₂ o' H' → Gh H' (up H b (.book B')) := fun H' o' f' s p as B' ib' fr H₁ r => by
    refine r.pack ib' fun a x e => ?_
    by_cases z : a = b
    · subst z; rw [Zad] at e; cases e; exact .inl ⟨rfl, rfl⟩
    · rw [Zab z] at e
      obtain ⟨e1, e2⟩ := hold a x e z
      obtain ⟨e3, e4⟩ := fr.old a x e1 e2
      exact .inr ⟨z, e4, e3⟩
  refine (CallOK.post (h H₂ o f' sa p as ib hold) (fun v H' q => ?_) fun cl H' q => ?_) A stk R s vals Rs a1 a2 ⟨H₁, S1, r2⟩ a4 kQ kE
  · obtain ⟨o', f', s, p, as, B', ib', fr, q | ⟨z, xs, rfl, hz, hz', ho, q⟩⟩ := q
    · exact ⟨_, back _ _ _ _ _ _ _ ib' fr, q.2⟩
    · refine ⟨_, fun H₁ r => ?_, q⟩
      refine r.pack ib' fun a x e => ?_
      have hzb : z ≠ b := fun w => by rw [w, hb] at hz; cases hz
      by_cases w : a = z
      · subst w; rw [Zad] at e; cases e; exact .inr ⟨hzb, ho, hz'⟩
      · rw [Zab w] at e
        by_cases y : a = b
        · subst y; rw [Zad] at e; cases e; exact .inl ⟨rfl, rfl⟩
        · rw [Zab y] at e
          obtain ⟨e1, e2⟩ := hold a x e y
          obtain ⟨e3, e4⟩ := fr.old a x e1 e2
          exact .inr ⟨y, e4, e3⟩
  · obtain ⟨o', f', s, p, as, B', ib', fr, q⟩ := q
    exact ⟨_, back _ _ _ _ _ _ _ ib' fr, q⟩
end Mine
end
section
end
section
open PySem PySem.W PyProof.Rows PySem.Spec PySem.SeqAt PySem.Calls
namespace Mine.BK
noncomputable def f_are_met : Fn := ⟨4, ["names", "needs", "kept", "done", "found", "name"], [
  .assign (.var 4) (.list []),
  .for (.var 5) (.var 0) [.ite (.cmp .Eq (.comp (.var 6) 1 false (.sub (.var 1) (.var 5)) (some (.ao true [(.cmp .NotIn (.var 6) (.var 2)), (.cmp .NotIn (.var 6) (.var 3))]))) (.list [])) [.expr (.bm (.var 4) .append [(.var 5)])] []],
  .ret (.var 4)]⟩
noncomputable def f_table_of : Fn := ⟨1, ["names", "table", "name"], [
  .assign (.var 1) (.dict [] []),
  .for (.var 2) (.var 0) [.assign (.sub (.var 1) (.var 2)) (.lit (.bool true))],
  .ret (.var 1)]⟩
noncomputable def f_greatest : Fn := ⟨3, ["full", "needs", "done", "ready", "names", "found"], [
  .assign (.var 3) (.call "table_of" [(.var 2)]),
  .assign (.var 4) (.prim .list [(.var 0)]),
  .assign (.var 5) (.call "are_met" [(.var 4), (.var 1), (.call "table_of" [(.var 4)]), (.var 3)]),
  .while (.cmp .Lt (.prim .len [(.var 5)]) (.prim .len [(.var 4)])) [.assign (.var 4) (.var 5),
    .assign (.var 5) (.call "are_met" [(.var 4), (.var 1), (.call "table_of" [(.var 4)]), (.var 3)])],
  .ret (.var 5)]⟩
noncomputable def f_is_whole : Fn := ⟨1, ["thing"], [
  .ret (.ao true [(.isinst (.var 0) "int"), (.not (.isinst (.var 0) "bool"))])]⟩
noncomputable def f_is_name : Fn := ⟨1, ["thing", "sign"], [
  .ite (.ao false [(.not (.isinst (.var 0) "str")), (.not (.cmp2 .LtE .LtE (.lit (.int 1)) (.prim .len [(.var 0)]) (.glob "MOST_SIGNS")))]) [.ret (.lit (.bool false))] [],
  .for (.var 1) (.var 0) [.ite (.cmp .NotIn (.var 1) (.glob "LETTERS")) [.ret (.lit (.bool false))] []],
  .ret (.lit (.bool true))]⟩
noncomputable def f_name_of : Fn := ⟨1, ["thing"], [
  .ite (.not (.call "is_name" [(.var 0)])) [.raise "NoName" (Str.ofString "no name")] [],
  .ret (.var 0)]⟩
noncomputable def f_amount_of : Fn := ⟨1, ["thing"], [
  .ite (.ao false [(.not (.call "is_whole" [(.var 0)])), (.not (.cmp2 .LtE .LtE (.lit (.int 1)) (.var 0) (.glob "MOST_AMOUNT")))]) [.raise "NoAmount" (Str.ofString "no amount")] [],
  .ret (.var 0)]⟩
noncomputable def f_Pact___init__ : Fn := ⟨6, ["self", "name", "parts", "gains", "needs", "last"], [
  .assign (.attr (.var 0) "name") (.var 1),
  .assign (.attr (.var 0) "parts") (.var 2),
  .assign (.attr (.var 0) "gains") (.var 3),
  .assign (.attr (.var 0) "needs") (.var 4),
  .assign (.attr (.var 0) "last") (.var 5),
  .assign (.attr (.var 0) "state") (.lit (.str (Str.ofString "open"))),
  .assign (.attr (.var 0) "inside") (.dict [] [])]⟩
noncomputable def f_Pact_part_of : Fn := ⟨2, ["self", "purse", "pair"], [
  .for (.var 2) (.attr (.var 0) "parts") [.ite (.cmp .Eq (.sub (.var 2) (.lit (.int 0))) (.var 1)) [.ret (.sub (.var 2) (.lit (.int 1)))] []],
  .ret (.lit .none)]⟩
noncomputable def f_Pact_is_full : Fn := ⟨1, ["self"], [
  .ret (.ao true [(.cmp .Eq (.attr (.var 0) "state") (.lit (.str (Str.ofString "open")))), (.cmp .Eq (.prim .len [(.attr (.var 0) "inside")]) (.prim .len [(.attr (.var 0) "parts")]))])]⟩
noncomputable def f_Book___init__ : Fn := ⟨1, ["self"], [
  .assign (.attr (.var 0) "day") (.lit (.int 0)),
  .assign (.attr (.var 0) "free") (.dict [] []),
  .assign (.attr (.var 0) "aside") (.dict [] []),
  .assign (.attr (.var 0) "pacts") (.dict [] [])]⟩
noncomputable def f_Book_need_purse : Fn := ⟨2, ["self", "purse"], [
  .ite (.ao false [(.not (.call "is_name" [(.var 1)])), (.cmp .NotIn (.var 1) (.attr (.var 0) "free"))]) [.raise "NoPurse" (Str.ofString "no such purse")] []]⟩
noncomputable def f_Book_need_pact : Fn := ⟨2, ["self", "pact"], [
  .ite (.ao false [(.not (.call "is_name" [(.var 1)])), (.cmp .NotIn (.var 1) (.attr (.var 0) "pacts"))]) [.raise "NoPact" (Str.ofString "no such pact")] [],
  .ret (.sub (.attr (.var 0) "pacts") (.var 1))]⟩
noncomputable def f_Book_need_open : Fn := ⟨2, ["self", "pact", "found"], [
  .assign (.var 2) (.meth (.var 0) "need_pact" [(.var 1)]),
  .ite (.cmp .NotEq (.attr (.var 2) "state") (.lit (.str (Str.ofString "open")))) [.raise "NotOpen" (Str.ofString "the pact isn't open")] [],
  .ret (.var 2)]⟩
noncomputable def f_Book_open_purse : Fn := ⟨2, ["self", "name"], [
  .expr (.call "name_of" [(.var 1)]),
  .ite (.cmp .In (.var 1) (.attr (.var 0) "free")) [.raise "Taken" (Str.ofString "there is such a purse")] [],
  .assign (.sub (.attr (.var 0) "free") (.var 1)) (.lit (.int 0)),
  .assign (.sub (.attr (.var 0) "aside") (.var 1)) (.lit (.int 0))]⟩
noncomputable def f_Book_put : Fn := ⟨3, ["self", "purse", "amount"], [
  .expr (.meth (.var 0) "need_purse" [(.var 1)]),
  .assign (.sub (.attr (.var 0) "free") (.var 1)) (.bin .Add (.sub (.attr (.var 0) "free") (.var 1)) (.call "amount_of" [(.var 2)]))]⟩
noncomputable def f_Book_pairs_of : Fn := ⟨2, ["self", "pairs", "found", "seen", "pair"], [
  .ite (.not (.cmp2 .LtE .LtE (.lit (.int 1)) (.prim .len [(.var 1)]) (.glob "MOST"))) [.raise "NoRow" (Str.ofString "one to eight pairs are wanted")] [],
  .assign (.var 2) (.list []),
  .assign (.var 3) (.dict [] []),
  .for (.var 4) (.var 1) [.expr (.meth (.var 0) "need_purse" [(.sub (.var 4) (.lit (.int 0)))]),
    .ite (.cmp .In (.sub (.var 4) (.lit (.int 0))) (.var 3)) [.raise "Twice" (Str.ofString "a purse stands twice")] [],
    .assign (.sub (.var 3) (.sub (.var 4) (.lit (.int 0)))) (.lit (.bool true)),
    .expr (.bm (.var 2) .append [(.tuple [(.sub (.var 4) (.lit (.int 0))), (.call "amount_of" [(.sub (.var 4) (.lit (.int 1)))])])])],
  .ret (.var 2)]⟩
noncomputable def f_Book_needs_of : Fn := ⟨3, ["self", "name", "needs", "seen", "one"], [
  .ite (.cmp .Gt (.prim .len [(.var 2)]) (.glob "MOST")) [.raise "NoRow" (Str.ofString "up to eight needs are wanted")] [],
  .assign (.var 3) (.dict [(.var 1)] [(.lit (.bool true))]),
  .for (.var 4) (.var 2) [.expr (.call "name_of" [(.var 4)]),
    .ite (.cmp .In (.var 4) (.var 3)) [.raise "Twice" (Str.ofString "a need stands twice")] [],
    .assign (.sub (.var 3) (.var 4)) (.lit (.bool true)),
    .ite (.ao true [(.cmp .In (.var 4) (.attr (.var 0) "pacts")), (.cmp .Eq (.attr (.sub (.attr (.var 0) "pacts") (.var 4)) "state") (.lit (.str (Str.ofString "fallen"))))]) [.raise "Fallen" (Str.ofString "a need has fallen")] []],
  .ret (.prim .list [(.var 2)])]⟩
noncomputable def f_Book_tell : Fn := ⟨6, ["self", "name", "parts", "gains", "needs", "last", "ones", "others", "wanted"], [
  .expr (.call "name_of" [(.var 1)]),
  .ite (.cmp .In (.var 1) (.attr (.var 0) "pacts")) [.raise "Taken" (Str.ofString "there is such a pact")] [],
  .assign (.var 6) (.meth (.var 0) "pairs_of" [(.var 2)]),
  .assign (.var 7) (.meth (.var 0) "pairs_of" [(.var 3)]),
  .ite (.cmp .NotEq (.prim .sum [(.comp (.sub (.var 9) (.lit (.int 1))) 1 false (.var 6) none)]) (.prim .sum [(.comp (.sub (.var 9) (.lit (.int 1))) 1 false (.var 7) none)])) [.raise "Uneven" (Str.ofString "parts and gains come to different sums")] [],
  .assign (.var 8) (.meth (.var 0) "needs_of" [(.var 1), (.var 4)]),
  .ite (.ao false [(.not (.call "is_whole" [(.var 5)])), (.cmp .Lt (.var 5) (.attr (.var 0) "day"))]) [.raise "NoDay" (Str.ofString "no day from now on")] [],
  .assign (.sub (.attr (.var 0) "pacts") (.var 1)) (.new "Pact" [(.var 1), (.var 6), (.var 7), (.var 8), (.var 5)])]⟩
noncomputable def f_Book_set_aside : Fn := ⟨3, ["self", "purse", "pact", "found", "amount"], [
  .expr (.meth (.var 0) "need_purse" [(.var 1)]),
  .assign (.var 3) (.meth (.var 0) "need_open" [(.var 2)]),
  .assign (.var 4) (.meth (.var 3) "part_of" [(.var 1)]),
  .ite (.cmp .Is (.var 4) (.lit .none)) [.raise "NoPart" (Str.ofString "the pact has no part of that purse")] [],
  .ite (.cmp .In (.var 1) (.attr (.var 3) "inside")) [.raise "Already" (Str.ofString "the part is set aside already")] [],
  .ite (.cmp .Lt (.sub (.attr (.var 0) "free") (.var 1)) (.var 4)) [.raise "TooLittle" (Str.ofString "less is free")] [],
  .assign (.sub (.attr (.var 3) "inside") (.var 1)) (.lit (.bool true)),
  .assign (.sub (.attr (.var 0) "free") (.var 1)) (.bin .Sub (.sub (.attr (.var 0) "free") (.var 1)) (.var 4)),
  .assign (.sub (.attr (.var 0) "aside") (.var 1)) (.bin .Add (.sub (.attr (.var 0) "aside") (.var 1)) (.var 4))]⟩
noncomputable def f_Book_given_back : Fn := ⟨3, ["self", "purse", "amount"], [
  .assign (.sub (.attr (.var 0) "aside") (.var 1)) (.bin .Sub (.sub (.attr (.var 0) "aside") (.var 1)) (.var 2)),
  .assign (.sub (.attr (.var 0) "free") (.var 1)) (.bin .Add (.sub (.attr (.var 0) "free") (.var 1)) (.var 2))]⟩
noncomputable def f_Book_fell : Fn := ⟨2, ["self", "pact", "pair"], [
  .for (.var 2) (.attr (.var 1) "parts") [.ite (.cmp .In (.sub (.var 2) (.lit (.int 0))) (.attr (.var 1) "inside")) [.expr (.meth (.var 0) "given_back" [(.sub (.var 2) (.lit (.int 0))), (.sub (.var 2) (.lit (.int 1)))])] []],
  .assign (.attr (.var 1) "inside") (.dict [] []),
  .assign (.attr (.var 1) "state") (.lit (.str (Str.ofString "fallen"))),
  .ret (.attr (.var 1) "name")]⟩
noncomputable def f_Book_first_dragged : Fn := ⟨1, ["self", "pact", "need"], [
  .for (.var 1) (.prim .list [(.bm (.attr (.var 0) "pacts") .values [])]) [.ite (.cmp .Eq (.attr (.var 1) "state") (.lit (.str (Str.ofString "open")))) [.for (.var 2) (.attr (.var 1) "needs") [.ite (.ao true [(.cmp .In (.var 2) (.attr (.var 0) "pacts")), (.cmp .Eq (.attr (.sub (.attr (.var 0) "pacts") (.var 2)) "state") (.lit (.str (Str.ofString "fallen"))))]) [.ret (.var 1)] []]] []],
  .ret (.lit .none)]⟩
noncomputable def f_Book_dragged : Fn := ⟨2, ["self", "names", "found", "pact"], [
  .assign (.var 2) (.prim .list [(.var 1)]),
  .assign (.var 3) (.meth (.var 0) "first_dragged" []),
  .while (.cmp .IsNot (.var 3) (.lit .none)) [.expr (.bm (.var 2) .append [(.meth (.var 0) "fell" [(.var 3)])]),
    .assign (.var 3) (.meth (.var 0) "first_dragged" [])],
  .ret (.var 2)]⟩
noncomputable def f_Book_call_off : Fn := ⟨2, ["self", "pact"], [
  .ret (.meth (.var 0) "dragged" [(.list [(.meth (.var 0) "fell" [(.meth (.var 0) "need_open" [(.var 1)])])])])]⟩
noncomputable def f_Book_standing : Fn := ⟨1, ["self", "ready", "needs", "done", "pact"], [
  .assign (.var 1) (.list []),
  .assign (.var 2) (.dict [] []),
  .assign (.var 3) (.list []),
  .for (.var 4) (.prim .list [(.bm (.attr (.var 0) "pacts") .values [])]) [.ite (.meth (.var 4) "is_full" []) [.expr (.bm (.var 1) .append [(.attr (.var 4) "name")]),
      .assign (.sub (.var 2) (.attr (.var 4) "name")) (.prim .list [(.attr (.var 4) "needs")])] [],
    .ite (.cmp .Eq (.attr (.var 4) "state") (.lit (.str (Str.ofString "done")))) [.expr (.bm (.var 3) .append [(.attr (.var 4) "name")])] []],
  .ret (.tuple [(.var 1), (.var 2), (.var 3)])]⟩
noncomputable def f_Book_settle : Fn := ⟨1, ["self", "found", "names", "name", "pact", "pair"], [
  .assign (.var 1) (.meth (.var 0) "standing" []),
  .assign (.var 2) (.call "greatest" [(.sub (.var 1) (.lit (.int 0))), (.sub (.var 1) (.lit (.int 1))), (.sub (.var 1) (.lit (.int 2)))]),
  .for (.var 3) (.var 2) [.assign (.var 4) (.sub (.attr (.var 0) "pacts") (.var 3)),
    .for (.var 5) (.attr (.var 4) "parts") [.assign (.sub (.attr (.var 0) "aside") (.sub (.var 5) (.lit (.int 0)))) (.bin .Sub (.sub (.attr (.var 0) "aside") (.sub (.var 5) (.lit (.int 0)))) (.sub (.var 5) (.lit (.int 1))))],
    .for (.var 5) (.attr (.var 4) "gains") [.assign (.sub (.attr (.var 0) "free") (.sub (.var 5) (.lit (.int 0)))) (.bin .Add (.sub (.attr (.var 0) "free") (.sub (.var 5) (.lit (.int 0)))) (.sub (.var 5) (.lit (.int 1))))],
    .assign (.attr (.var 4) "inside") (.dict [] []),
    .assign (.attr (.var 4) "state") (.lit (.str (Str.ofString "done")))],
  .ret (.var 2)]⟩
noncomputable def f_Book_purses : Fn := ⟨1, ["self"], [
  .ret (.prim .list [(.attr (.var 0) "free")])]⟩
noncomputable def f_Book_told : Fn := ⟨1, ["self"], [
  .ret (.prim .list [(.attr (.var 0) "pacts")])]⟩
noncomputable def f_Book_free_of : Fn := ⟨2, ["self", "purse"], [
  .expr (.meth (.var 0) "need_purse" [(.var 1)]),
  .ret (.sub (.attr (.var 0) "free") (.var 1))]⟩
noncomputable def f_Book_aside_of : Fn := ⟨2, ["self", "purse"], [
  .expr (.meth (.var 0) "need_purse" [(.var 1)]),
  .ret (.sub (.attr (.var 0) "aside") (.var 1))]⟩
noncomputable def f_Book_state_of : Fn := ⟨2, ["self", "pact"], [
  .ret (.attr (.meth (.var 0) "need_pact" [(.var 1)]) "state")]⟩
noncomputable def f_Book_inside_of : Fn := ⟨2, ["self", "pact", "found"], [
  .assign (.var 2) (.meth (.var 0) "need_pact" [(.var 1)]),
  .ret (.comp (.sub (.var 3) (.lit (.int 0))) 1 false (.attr (.var 2) "parts") (some (.cmp .In (.sub (.var 3) (.lit (.int 0))) (.attr (.var 2) "inside"))))]⟩
noncomputable def f_Book_full : Fn := ⟨2, ["self", "pact"], [
  .ret (.meth (.meth (.var 0) "need_pact" [(.var 1)]) "is_full" [])]⟩
noncomputable def f_Book_pass_days : Fn := ⟨2, ["self", "count", "names", "pact"], [
  .ite (.ao false [(.not (.call "is_whole" [(.var 1)])), (.cmp .Lt (.var 1) (.lit (.int 1)))]) [.raise "NoDay" (Str.ofString "no count of days")] [],
  .assign (.attr (.var 0) "day") (.bin .Add (.attr (.var 0) "day") (.var 1)),
  .assign (.var 2) (.list []),
  .for (.var 3) (.prim .list [(.bm (.attr (.var 0) "pacts") .values [])]) [.ite (.ao true [(.cmp .Eq (.attr (.var 3) "state") (.lit (.str (Str.ofString "open")))), (.cmp .Lt (.attr (.var 3) "last") (.attr (.var 0) "day"))]) [.expr (.bm (.var 2) .append [(.meth (.var 0) "fell" [(.var 3)])])] []],
  .ret (.meth (.var 0) "dragged" [(.var 2)])]⟩
noncomputable def f__law_cell_at : Fn := ⟨2, ["_law_script", "_law_k"], [
  .ite (.cmp .Lt (.var 1) (.prim .len [(.var 0)])) [.ret (.sub (.var 0) (.var 1))] [],
  .ret (.lit (.int 0))]⟩
noncomputable def f__law_mixed : Fn := ⟨2, ["_law_number", "_law_k"], [
  .ret (.bin .Mod (.bin .Add (.bin .Add (.bin .Mult (.var 0) (.lit (.int 6364136223846793005))) (.bin .Mult (.var 1) (.lit (.int 1442695040888963407)))) (.lit (.int 1013904223))) (.lit (.int 2305843009213693951)))]⟩
noncomputable def f__law_whole : Fn := ⟨1, ["_law_found"], [
  .ret (.ao true [(.isinst (.var 0) "int"), (.not (.isinst (.var 0) "bool"))])]⟩
end Mine.BK
namespace Mine.BK
noncomputable def consts : List (String × AV) := [("LETTERS", (.str (Str.ofString "abcdefghijklmnopqrstuvwxyz"))), ("MOST_SIGNS", (.int 12)), ("MOST_AMOUNT", (.int 1000000000000000000000000000000)), ("MOST", (.int 8))]
noncomputable def meths : List (String × String) := [("Pact", "__init__"), ("Pact", "part_of"), ("Pact", "is_full"), ("Book", "__init__"), ("Book", "need_purse"), ("Book", "need_pact"), ("Book", "need_open"), ("Book", "open_purse"), ("Book", "put"), ("Book", "take"), ("Book", "pairs_of"), ("Book", "needs_of"), ("Book", "tell"), ("Book", "set_aside"), ("Book", "given_back"), ("Book", "draw_back"), ("Book", "fell"), ("Book", "first_dragged"), ("Book", "dragged"), ("Book", "call_off"), ("Book", "pass_days"), ("Book", "standing"), ("Book", "settle"), ("Book", "why_not"), ("Book", "purses"), ("Book", "told"), ("Book", "free_of"), ("Book", "aside_of"), ("Book", "state_of"), ("Book", "inside_of"), ("Book", "full")]
noncomputable def attrs : List (String × String) := [("Book", "aside"), ("Book", "day"), ("Book", "free"), ("Book", "pacts"), ("Pact", "gains"), ("Pact", "inside"), ("Pact", "last"), ("Pact", "name"), ("Pact", "needs"), ("Pact", "parts"), ("Pact", "state")]
end Mine.BK
namespace Mine
structure HasA (P : Pg) : Prop where
  meths : P.meths = BK.meths
  attrs : P.attrs = BK.attrs
  consts : P.consts = BK.consts
  is_whole : P.fns.lookup "is_whole" = some BK.f_is_whole
  is_name : P.fns.lookup "is_name" = some BK.f_is_name
  name_of : P.fns.lookup "name_of" = some BK.f_name_of
  amount_of : P.fns.lookup "amount_of" = some BK.f_amount_of
  init : P.fns.lookup "Book.__init__" = some BK.f_Book___init__
  need_purse : P.fns.lookup "Book.need_purse" = some BK.f_Book_need_purse
  open_purse : P.fns.lookup "Book.open_purse" = some BK.f_Book_open_purse
  put : P.fns.lookup "Book.put" = some BK.f_Book_put
  purses : P.fns.lookup "Book.purses" = some BK.f_Book_purses
  told : P.fns.lookup "Book.told" = some BK.f_Book_told
  free_of : P.fns.lookup "Book.free_of" = some BK.f_Book_free_of
  aside_of : P.fns.lookup "Book.aside_of" = some BK.f_Book_aside_of
noncomputable def Zbz : AV → Bool
  | .str s => isNm s
  | _ => false
noncomputable def Zbv : AV → Bool
  | .int _ => true
  | _ => false
noncomputable def Zb1 : AV → Bool
  | .int i => decide (1 ≤ i ∧ i ≤ 1000000000000000000000000000000)
  | _ => false
noncomputable def Kn (H : Zaa) (v : AV) : Prop := (∃ k, Zfr H v = some k) ∧ ∀ s, v = .str s → s.length < 2 ^ 62
theorem wfor {QN : VV → Zaa → Prop} {stp : AV → (VV → Zaa → Prop) → VV → Zaa → Prop} {v : AV} {V : VV} {H : Zaa} {xs : List AV} (hx : Zan H v = some xs) (I : Nat → VV → Zaa → Prop) (h0 : I 0 V H)
    (hs : ∀ k V' H', I k V' H' → Zc4 H H' v ∧ (k = xs.length → QN V' H') ∧ ∀ x, xs[k]? = some x → stp x (I (k + 1)) V' H') : WFor QN stp v V H := ⟨xs, hx, I, h0, hs⟩
section
variable {c : Cx} {P : Pg} (G : Gd c P) (U : HasA P) {n : Nat} {md : Bool} {Q : AV → Zaa → Prop} {E : String → Zaa → Prop} {H : Zaa}
theorem Zrt {v : AV} (h : Zfr H v = some "str") : ∃ s, v = .str s := by
  cases v with
  | str s => exact ⟨s, rfl⟩
  | ref a => simp only [Zfr] at h; split at h <;> simp at h
  | _ => simp [Zfr] at h
theorem Zrg {v : AV} {k : String} (hk : Zfr H v = some k) (h : k ≠ "str") : Zbz v = false := by
  cases v with
  | str s => simp [Zfr] at hk; exact absurd hk.symm h
  | _ => rfl
theorem Zw6 {g : Gx} (hmd : g.md = true) {s : Str} {e : X} {V : VV} {QN : VV → Zaa → Prop} {E : String → VV → Zaa → Prop} (he : ∀ V H Q E, wpX g e V Q E H = Q (.str letters) H) (hV : V = [some (.str s), none]) (h1 : (s.cps.toList.all fun ch => letters.cps.toList.contains ch) = true → ∀ a, QN [some (.str s), a] H) (h2 : (s.cps.toList.all fun ch => letters.cps.toList.contains ch) = false → Q (.bool false) H) :
    wpS g (.for (.var 1) (.var 0) [.ite (.cmp .NotIn (.var 1) e) [.ret (.lit (.bool false))] []]) QN Q E V H := by
  subst hV
  simp only [Zax, Za8, Zaj, Zao, Za6, Zba, Zbq, Zdf, Zcx]
  refine ⟨hmd, ?_⟩
  dsimp only [v_0, Zag, Zae, Zaw, Zbm, Za9, x_ao, Zak, Za3, Zau, Zav, Za1, Zal, Zar, x_bm, Zbl, Zam, Zbg, Zap, Zaf, Zac, Za5, Zat, Zb7, Zbs, Zbp, Zbt, tv, tsub, tattr, wtg, Zb8, Zdd, Zet, Zcj, Zbu, Zdb, Zdk, c_lt, c_le, c_gt, c_ge, c_eq, c_ne, Zci, Zdp, c_in, Zdt, Zai, Ze9, Zde, Zas, Zdq, Zax, Za8, Zaj, Zao, Za6]
  refine wfor (xs := s.cps.toList.map fun ch => AV.str ⟨#[ch]⟩) rfl (fun k V' H' => H' = H ∧ (∃ a, V' = [some (.str s), a]) ∧ ∀ ch ∈ s.cps.toList.take k, letters.cps.toList.contains ch = true) ⟨rfl, ⟨_, rfl⟩, by simp⟩ ?_
  rintro k V' H' ⟨rfl, ⟨a, rfl⟩, hin⟩
  refine ⟨trivial, fun hk => h1 ?_ a, fun x hx => ?_⟩
  · rw [hk, List.length_map, List.take_length] at hin
    rw [List.all_eq_true]; exact hin
  · rw [List.getElem?_map, Option.map_eq_some_iff] at hx
    obtain ⟨ch, hch, rfl⟩ := hx
    dsimp only [List.length_cons, List.length_nil, Nat.reduceAdd, List.set_cons_succ, List.set_cons_zero, List.getElem?_cons_succ, v_0]; simp [he, v_0, Zag, Zae, Zaw, Zbm, Za9, x_ao, Zak, Za3, Zau, Zav, Za1, Zal, Zar, x_bm, Zbl, Zam, Zbg, Zap, Zaf, Zac, Za5, Zat, Zb7, Zbs, Zbp, Zbt, tv, tsub, tattr, wtg, Zb8, Zdd, Zet, Zcj, Zbu, Zdb, Zdk, c_lt, c_le, c_gt, c_ge, c_eq, c_ne, Zci, Zdp, c_in, Zdt, Zai, Ze9, Zde, Zas, Zdq, Zax, Za8, Zaj, Zao, Za6]
    refine ⟨ch, rfl, ?_⟩
    cases hc : letters.cps.toList.contains ch with
    | true =>
      simp only [Zai]
      simp
      intro ch' hch'
      rw [List.take_add_one, hch] at hch'
      rcases List.mem_append.mp hch' with h | h
      · simpa using hin ch' h
      · simp at h; subst h; simpa using hc
    | false =>
      simp only [Zai]
      simp
      apply h2
      rw [List.all_eq_false]
      exact ⟨ch, List.mem_of_getElem? hch, by rw [hc]; simp⟩
theorem Zl6 {P : Pg} {v : AV} {k ty : String} (hk : Zfr H v = some k) (ht : ty = "int" ∨ ty = "bool" ∨ ty = "str" ∨ ty = "list") : Zcb P H v ty = some (k == ty || (k == "bool" && ty == "int")) := by
  unfold Zcb
  rw [if_pos ht, hk]; rfl
theorem Zno {g : Gx} {V : VV} {i : Nat} {v : AV} {ty : String} {b : Bool} (hV : V[i]? = some (some v)) (h : Zcb g.c.P H v ty = some b) (q : Q (.bool b) H) : wpX g (.isinst (.var i) ty) V Q E H := by
  rw [Zbl, Zae, hV]
  show match Zcb g.c.P H v ty with | some b => Q (.bool b) H | none => False
  rw [h]; exact q
theorem x_gl {g : Gx} {V : VV} {n : String} {v : AV} (h : g.c.P.consts.lookup n = some v) (q : Q v H) : wpX g (.glob n) V Q E H := by
  rw [Za1, h]; exact q
include G U
theorem Zf0 {v : AV} (hk : Kn H v) (q : Q (.bool (Zbz v)) H) : CallOK c (n + 1) true "is_name" [v] Q E H := by
  obtain ⟨⟨k, hk⟩, hl⟩ := hk
  refine G.call (F := BK.f_is_name) U.is_name rfl ?_
  have hg : c.P.consts.lookup "MOST_SIGNS" = some (.int 12) := by rw [G.hP, U.consts]; rfl
  have hg2 : c.P.consts.lookup "LETTERS" = some (.str letters) := by rw [G.hP, U.consts]; rfl
  have hi := Zl6 (P := c.P) (ty := "str") hk (.inr (.inr (.inl rfl)))
  show wpSs _ _ _ _ _ [some v, none] _
  refine w_st fun K nx => ?_
  rw [Zax, x_ao, Zat, Za9]
  by_cases hks : k = "str"
  · subst hks
    obtain ⟨s, rfl⟩ := Zrt hk
    have hl := hl s rfl
    refine Zno (b := true) rfl hi ?_
    rw [Zai]
    show wpAO _ false [_] _ _ _ _
    rw [Za5, Za9, Za3, Zag, Zar, Zac, Zae]
    show wpXs _ [] _ _ _ _
    rw [Zaf, Zjk]
    refine ⟨hl, ?_⟩
    rw [c_le, Zai]
    by_cases a : (1 : Int) ≤ s.length
    · rw [decide_eq_true a, if_pos rfl]
      refine x_gl hg ?_
      rw [c_le, Zai]
      by_cases b : (s.length : Int) ≤ 12
      · rw [decide_eq_true b]
        refine nx _ _ ?_
        refine w_st fun K nx => ?_
        refine Zw6 rfl (fun V H Q E => by rw [Za1, hg2]) rfl (fun h a' => nx _ _ ?_) (fun h => ?_)
        · have : Zbz (.str s) = true := by show isNm s = true; unfold isNm; rw [h, Bool.and_true]; exact decide_eq_true ⟨by lia, by lia⟩
          rw [this] at q; exact q
        · have : Zbz (.str s) = false := by show isNm s = false; unfold isNm; rw [h, Bool.and_false]
          rw [this] at q; exact q
      · rw [decide_eq_false b]
        have : Zbz (.str s) = false := by show isNm s = false; unfold isNm; rw [decide_eq_false (by lia), Bool.false_and]
        rw [this] at q; exact q
    · rw [decide_eq_false a, if_neg Bool.false_ne_true]
      have : Zbz (.str s) = false := by show isNm s = false; unfold isNm; rw [decide_eq_false (by lia), Bool.false_and]
      rw [this] at q; exact q
  · refine Zno (b := false) rfl (by rw [hi, show (k == "str") = false from beq_false_of_ne hks]; show some (false || (k == "bool" && false)) = some false; rw [Bool.and_false]; rfl) ?_
    rw [Zrg hk hks] at q
    exact q
theorem Ziw {v : AV} (hk : Kn H v) (q : if Zbz v then Q v H else E "NoName" H) : CallOK c (n + 2) true "name_of" [v] Q E H := by
  refine G.call (F := BK.f_name_of) U.name_of rfl ?_
  show wpSs _ _ _ _ _ [some v] _
  refine w_st fun K nx => ?_
  rw [Zax, Za9, Zal, Zac, Zae]
  show CallOK _ _ _ _ [v] _ _ _
  refine Zf0 G U hk ?_
  revert q
  cases Zbz v with
  | true => exact fun q => nx _ _ q
  | false => exact fun q => ⟨rfl, q⟩
omit G U in
theorem Zmq {v : AV} {k : String} (h : Zfr H v = some k) : Zbv v = (k == "int") := by
  cases v with
  | ref a =>
    revert h
    show (match H a with | some (.list _) => some "list" | some (.tuple _) => some "tuple" | some (.dict ..) => some "dict" | _ => none) = some k → _
    split <;> intro h <;> cases h <;> rfl
  | _ => cases h; rfl
theorem Ze5 {v : AV} (hk : Kn H v) (q : Q (.bool (Zbv v)) H) : CallOK c (n + 1) md "is_whole" [v] Q E H := by
  obtain ⟨⟨k, hk⟩, _⟩ := hk
  refine G.call (F := BK.f_is_whole) U.is_whole rfl ?_
  show wpSs _ [_] _ _ _ [some v] _
  rw [Zas, Za8, x_ao, Zat]
  refine Zno rfl (Zl6 hk (.inl rfl)) ?_
  rw [Zai]
  rw [Zmq hk] at q
  by_cases h1 : k = "int"
  · subst h1
    show wpAO _ true [_] _ _ _ _
    rw [Za5, Za9]
    exact Zno (b := false) rfl (Zl6 hk (.inr (.inl rfl))) q
  · by_cases h2 : k = "bool"
    · subst h2
      show wpAO _ true [_] _ _ _ _
      rw [Za5, Za9]
      exact Zno (b := true) rfl (Zl6 hk (.inr (.inl rfl))) q
    · rw [beq_false_of_ne h1] at q
      rw [beq_false_of_ne h1, beq_false_of_ne h2]
      exact q
theorem Zki {v : AV} (hk : Kn H v) (q : if Zb1 v then Q v H else E "NoAmount" H) : CallOK c (n + 2) true "amount_of" [v] Q E H := by
  refine G.call (F := BK.f_amount_of) U.amount_of rfl ?_
  have hg : c.P.consts.lookup "MOST_AMOUNT" = some (.int 1000000000000000000000000000000) := by rw [G.hP, U.consts]; rfl
  show wpSs _ _ _ _ _ [some v] _
  refine w_st fun K nx => ?_
  rw [Zax, x_ao, Zat, Za9, Zal, Zac, Zae]
  show CallOK _ _ _ _ [v] _ _ _
  refine Ze5 G U hk ?_
  cases v with
  | int i =>
    rw [Zai]
    show wpAO _ false [_] _ _ _ _
    rw [Za5, Za9, Za3, Zag, Zae]
    show wcmp .LtE (.int 1) (.int i) _ _
    rw [c_le, Zai]
    by_cases a : 1 ≤ i
    · rw [decide_eq_true a, if_pos rfl]
      refine x_gl hg ?_
      rw [c_le, Zai]
      by_cases b : i ≤ 1000000000000000000000000000000
      · rw [decide_eq_true b]
        rw [show Zb1 (.int i) = true from decide_eq_true ⟨a, b⟩, if_pos rfl] at q
        exact nx _ _ q
      · rw [decide_eq_false b]
        rw [show Zb1 (.int i) = false from decide_eq_false fun h => b h.2, if_neg Bool.false_ne_true] at q
        exact ⟨rfl, q⟩
    · rw [decide_eq_false a, if_neg Bool.false_ne_true]
      rw [show Zb1 (.int i) = false from decide_eq_false fun h => a h.1, if_neg Bool.false_ne_true] at q
      exact ⟨rfl, q⟩
  | _ => exact ⟨rfl, q⟩
end
end Mine
end
section
open PySem PySem.W PyProof.Rows PySem.Spec PySem.SeqAt PySem.Calls
namespace Mine
theorem Zhj {l : List (Str × Int)} {k : Str} : Zb0 (dI l) k = (lk l k).map .int := by
  induction l with
  | nil => rfl
  | cons e r ih =>
    unfold Zb0 lk dI at *
    simp only [List.map_cons, List.find?_cons]
    by_cases h : e.1 = k
    · simp [h]
    · simp [h]; simpa using ih
theorem Zg5 {l : List (Str × Int)} {k : Str} {i : Int} : putS (dI l) k (.int i) = dI (pt l k i) := by
  unfold putS pt
  rw [Zhj, Option.isSome_map]
  split
  · unfold dI
    rw [List.map_map, List.map_map]
    congr 1
    funext e
    simp only [Function.comp]
    split <;> rfl
  · simp [dI]
theorem Zhp {l : List (Str × Int)} : (dI l).length = l.length := by simp [dI]
noncomputable def hs (l : List (Str × Int)) (k : Str) : Bool := (lk l k).isSome
theorem Zgf {l : List (Str × Int)} {k : Str} (h : hs l k = true) : lk l k = some ((lk l k).getD 0) := by
  unfold hs at h
  cases e : lk l k with
  | none => rw [e] at h; cases h
  | some => rfl
theorem Zby {o : Addr → Option Role} {a b : Addr} {r r' : Role} (h1 : o a = some r) (h2 : o b = some r') (h : r ≠ r') : a ≠ b := fun e => by subst e; rw [h1] at h2; cases h2; exact h rfl
theorem Zi7 {o : Addr → Option Role} {H : Zaa} {x : Addr} {y : AObj} (hx : o x ≠ none) : Fr1 o H o (up H x y) := ⟨fun a z h k => ⟨by rw [Zab (fun q => by subst q; exact hx k)]; exact h, k⟩, fun _ h => Zc3 h⟩
theorem Ziy {P : Role → Prop} {o : Addr → Option Role} {H : Zaa} {x : Addr} {y : AObj} (hx : ∀ r, o x = some r → ¬ P r) : KB P o o H (up H x y) := fun a r z hp ho hz _ => ⟨ho, by rw [Zab (fun q => by subst q; exact hx r ho hp)]; exact hz⟩
noncomputable def Role.isP : Role → Prop
  | .data => True
  | .pact _ => True
  | .inside _ => True
  | _ => False
section
variable {o : Addr → Option Role} {H : Zaa} {b f s p : Addr} {as : List Addr} {B : Bk} (ib : IsBook o H b f s p as B)
include ib
theorem IsBook.setFree (ep : Nat) (l : List (Str × Int)) : IsBook o (up H f (.dict ep (dI l))) b f s p as { B with free := l } :=
  ⟨ib.ob, ib.of, ib.os, ib.op, by rw [Zab (Zby ib.ob ib.of (by intro h; cases h))]; exact ib.hb, ⟨ep, Zad⟩,
    by rw [Zab (Zby ib.os ib.of (by intro h; cases h))]; exact ib.hs, by rw [Zab (Zby ib.op ib.of (by intro h; cases h))]; exact ib.hp,
    ib.ps.congr (P := Role.isP) (Ziy fun r h => by rw [ib.of] at h; cases h; exact id) trivial fun _ _ => ⟨trivial, trivial⟩⟩
theorem IsBook.setAside (ep : Nat) (l : List (Str × Int)) : IsBook o (up H s (.dict ep (dI l))) b f s p as { B with aside := l } :=
  ⟨ib.ob, ib.of, ib.os, ib.op, by rw [Zab (Zby ib.ob ib.os (by intro h; cases h))]; exact ib.hb, by rw [Zab (Zby ib.of ib.os (by intro h; cases h))]; exact ib.hf,
    ⟨ep, Zad⟩, by rw [Zab (Zby ib.op ib.os (by intro h; cases h))]; exact ib.hp,
    ib.ps.congr (P := Role.isP) (Ziy fun r h => by rw [ib.os] at h; cases h; exact id) trivial fun _ _ => ⟨trivial, trivial⟩⟩
theorem IsBook.setDay (d : Int) : IsBook o (up H b (.inst "Book" [("day", .int d), ("free", .ref f), ("aside", .ref s), ("pacts", .ref p)])) b f s p as { B with day := d } :=
  ⟨ib.ob, ib.of, ib.os, ib.op, Zad, by rw [Zab (Zby ib.of ib.ob (by intro h; cases h))]; exact ib.hf, by rw [Zab (Zby ib.os ib.ob (by intro h; cases h))]; exact ib.hs,
    by rw [Zab (Zby ib.op ib.ob (by intro h; cases h))]; exact ib.hp,
    ib.ps.congr (P := Role.isP) (Ziy fun r h => by rw [ib.ob] at h; cases h; exact id) trivial fun _ _ => ⟨trivial, trivial⟩⟩
end
noncomputable def Zbn (B : Bk) : AV → Bool
  | .str k => isNm k && hs B.free k
  | _ => false
section
variable {c : Cx} {P : Pg} (G : Gd c P) (U : HasA P) {n : Nat} {md : Bool} {Q : AV → Zaa → Prop} {E : String → Zaa → Prop} {H : Zaa} {o : Addr → Option Role} {b f s p : Addr} {as : List Addr} {B : Bk}
section
variable {g : Gx} {V : VV} (ib : IsBook o H b f s p as B)
theorem Zdc {i : Nat} (hP : g.c.P.attrs = BK.attrs) (ib : IsBook o H b f s p as B) (hV : V[i]? = some (some (.ref b))) (q : Q (.ref f) H) : wpX g (.attr (.var i) "free") V Q E H := by
  simp only [Za4, Zbc, Zae, hV, ib.hb]
  exact ⟨by rw [hP]; rfl, q⟩
theorem Zd1 {i : Nat} (hP : g.c.P.attrs = BK.attrs) (ib : IsBook o H b f s p as B) (hV : V[i]? = some (some (.ref b))) (q : Q (.ref s) H) : wpX g (.attr (.var i) "aside") V Q E H := by
  simp only [Za4, Zbc, Zae, hV, ib.hb]
  exact ⟨by rw [hP]; rfl, q⟩
theorem Zco {i : Nat} (hP : g.c.P.attrs = BK.attrs) (ib : IsBook o H b f s p as B) (hV : V[i]? = some (some (.ref b))) (q : Q (.ref p) H) : wpX g (.attr (.var i) "pacts") V Q E H := by
  simp only [Za4, Zbc, Zae, hV, ib.hb]
  exact ⟨by rw [hP]; rfl, q⟩
theorem Zp9 {i : Nat} (hP : g.c.P.attrs = BK.attrs) (ib : IsBook o H b f s p as B) (hV : V[i]? = some (some (.ref b))) (q : Q (.int B.day) H) : wpX g (.attr (.var i) "day") V Q E H := by
  simp only [Za4, Zbc, Zae, hV, ib.hb]
  exact ⟨by rw [hP]; rfl, q⟩
theorem Zbk {i : Nat} {m : String} {xs : List X} (hP : g.c.P.meths = BK.meths) (hm : BK.meths.contains ("Book", m) = true) (hn : bookAttrs.contains m = false) (ib : IsBook o H b f s p as B) (hV : V[i]? = some (some (.ref b)))
    (q : wpXs g xs V (fun vs H => CallOK g.c g.n g.md ("Book." ++ m) (.ref b :: vs) Q E H) E H) : wpX g (.meth (.var i) m xs) V Q E H := by
  simp only [Za4, Zbc, Zae, hV, ib.hb]
  refine ⟨by rw [hP]; exact hm, ?_, q⟩
  simp only [bookAttrs, List.contains_cons, List.contains_nil, Bool.or_false, Bool.or_eq_false_iff, beq_eq_false_iff_ne] at hn
  obtain ⟨n1, n2, n3, n4⟩ := hn
  simp [Zd0, n1.symm, n2.symm, n3.symm, n4.symm]
theorem Zel {k : Str} {v : Int} (ib : IsBook o H b f s p as B) (h : lk B.free k = some v) (q : Q (.int v) H) : wsub (.ref f) (.str k) Q H := by
  obtain ⟨ep, hf⟩ := ib.hf
  simp only [Zg2, Zf9, Zlu, hf]
  exact ⟨.int v, by rw [Zhj, h]; rfl, q⟩
theorem Zfb {k : Str} {v : Int} (ib : IsBook o H b f s p as B) (h : lk B.aside k = some v) (q : Q (.int v) H) : wsub (.ref s) (.str k) Q H := by
  obtain ⟨ep, hf⟩ := ib.hs
  simp only [Zg2, Zf9, Zlu, hf]
  exact ⟨.int v, by rw [Zhj, h]; rfl, q⟩
theorem Zph {k : Str} {no : Bool} (ib : IsBook o H b f s p as B) (q : Q (.bool (hs B.free k != no)) H) : win no (.str k) (.ref f) Q H := by
  obtain ⟨ep, hf⟩ := ib.hf
  simp only [Zd4, Zlc, hf]
  rw [Zhj, Option.isSome_map, ← Ziv]
  exact q
end
include G U
theorem Zck {v : AV} (ib : IsBook o H b f s p as B) (hk : Kn H v) (q : if Zbn B v then Q .none H else E "NoPurse" H) : CallOK c (n + 2) true "Book.need_purse" [.ref b, v] Q E H := by
  refine G.call (F := BK.f_Book_need_purse) U.need_purse rfl ?_
  have hA : c.P.attrs = BK.attrs := by rw [G.hP, U.attrs]
  simp only [BK.f_Book_need_purse, Ze6, v_0, Zag, Zae, Zaw, Zbm, Za9, x_ao, Zak, Za3, Zau, Zav, Za1, Zal, Zar, x_bm, Zbl, Zam, Zbg, Zap, Zaf, Zac, Za5, Zat, Zb7, Zbs, Zbp, Zbt, tv, tsub, tattr, wtg, Zb8, Zdd, Zet, Zcj, Zbu, Zdb, Zdk, c_lt, c_le, c_gt, c_ge, c_eq, c_ne, Zci, Zdp, c_in, Zdt, Zai, Ze9, Zde, Zas, Zdq, Zax, Za8, Zaj, Zao, Za6]
  simp
  refine Zf0 G U hk ?_
  cases hn : Zbz v with
  | false =>
    have : Zbn B v = false := by cases v <;> first | rfl | (simp only [Zbz] at hn; simp [Zbn, hn])
    rw [this] at q
    simpa [v_0, Zag, Zae, Zaw, Zbm, Za9, x_ao, Zak, Za3, Zau, Zav, Za1, Zal, Zar, x_bm, Zbl, Zam, Zbg, Zap, Zaf, Zac, Za5, Zat, Zb7, Zbs, Zbp, Zbt, tv, tsub, tattr, wtg, Zb8, Zdd, Zet, Zcj, Zbu, Zdb, Zdk, c_lt, c_le, c_gt, c_ge, c_eq, c_ne, Zci, Zdp, c_in, Zdt, Zai, Ze9, Zde, Zas, Zdq, Zax, Za8, Zaj, Zao, Za6] using q
  | true =>
    cases v with
    | str k =>
      simp only [Zbz] at hn
      simp [v_0, Zag, Zae, Zaw, Zbm, Za9, x_ao, Zak, Za3, Zau, Zav, Za1, Zal, Zar, x_bm, Zbl, Zam, Zbg, Zap, Zaf, Zac, Za5, Zat, Zb7, Zbs, Zbp, Zbt, tv, tsub, tattr, wtg, Zb8, Zdd, Zet, Zcj, Zbu, Zdb, Zdk, c_lt, c_le, c_gt, c_ge, c_eq, c_ne, Zci, Zdp, c_in, Zdt, Zai, Ze9, Zde]
      refine Zdc hA ib rfl (Zph ib ?_)
      cases hh : hs B.free k with
      | true => simp [Zbn, hn, hh, Zai] at q ⊢; exact q
      | false => simp [Zbn, hn, hh, Zai, Za6] at q ⊢; exact q
    | _ => cases hn
end
end Mine
end
section
open PySem PySem.W PyProof.Rows PySem.Spec PySem.SeqAt PySem.Calls
namespace Mine
noncomputable def Zaz : AV → Str
  | .str k => k
  | _ => default
noncomputable def Zc9 : AV → Int
  | .int i => i
  | _ => 0
noncomputable def Zm2 (B : Bk) (v : AV) : Except String Bk :=
  if Zbz v then (if hs B.free (Zaz v) then .error "Taken" else .ok { B with free := pt B.free (Zaz v) 0, aside := pt B.aside (Zaz v) 0 }) else .error "NoName"
noncomputable def Zda (B : Bk) (v : AV) : Int := (lk B.free (Zaz v)).getD 0
noncomputable def Zd2 (B : Bk) (v : AV) : Int := (lk B.aside (Zaz v)).getD 0
noncomputable def putQ (B : Bk) (v a : AV) : Except String Bk :=
  if Zbn B v then (if Zb1 a then .ok { B with free := pt B.free (Zaz v) (Zda B v + Zc9 a) } else .error "NoAmount") else .error "NoPurse"
theorem Zcs {v : AV} (h : Zbz v = true) : v = .str (Zaz v) := by cases v <;> first | rfl | cases h
theorem Zce {B : Bk} {v : AV} (h : Zbn B v = true) : v = .str (Zaz v) ∧ hs B.free (Zaz v) = true := by
  cases v with
  | str k => simp only [Zbn, Bool.and_eq_true] at h; exact ⟨rfl, h.2⟩
  | _ => cases h
theorem Zij {v : AV} (h : Zb1 v = true) : v = .int (Zc9 v) := by cases v <;> first | rfl | cases h
theorem Zfu {B : Bk} {v : AV} (h : Zbn B v = true) : lk B.free (Zaz v) = some (Zda B v) := Zgf (Zce h).2
noncomputable def Bk.Sz (B : Bk) : Prop := B.free.length ≤ sizeLine ∧ B.aside.length ≤ sizeLine
noncomputable def Ends (r : Except String Bk) (q : Bk → Prop) (e : String → Prop) : Prop :=
  match r with
  | .ok B => q B
  | .error cl => e cl
section
variable {c : Cx} {P : Pg} (G : Gd c P) (U : HasA P) {n : Nat} {md : Bool} {Q : AV → Zaa → Prop} {E : String → Zaa → Prop} {H : Zaa} {o : Addr → Option Role} {b f s p : Addr} {as : List Addr} {B : Bk}
section
variable {g : Gx} {V : VV} {QN : VV → Zaa → Prop}
theorem Zkr {i j : Nat} {k : Str} {x : Int} (hP : g.c.P.attrs = BK.attrs) (ib : IsBook o H b f s p as B) (hl : B.free.length ≤ sizeLine) (hV : V[i]? = some (some (.ref b))) (hj : V[j]? = some (some (.str k)))
    (q : ∀ H', IsBook o H' b f s p as { B with free := pt B.free k x } → Fr1 o H o H' → QN V H') : wpT g (.sub (.attr (.var i) "free") (.var j)) (.int x) V QN E H := by
  dsimp only [tsub]
  refine Zdc hP ib hV ?_
  obtain ⟨ep, hf⟩ := ib.hf
  simp only [Zae, hj, hf]
  refine ⟨by rw [Zhp]; exact hl, fun ep' => ?_⟩
  rw [Zg5]
  exact q _ (ib.setFree ep' _) (Zi7 (by rw [ib.of]; simp))
theorem Zlv {i j : Nat} {k : Str} {x : Int} (hP : g.c.P.attrs = BK.attrs) (ib : IsBook o H b f s p as B) (hl : B.aside.length ≤ sizeLine) (hV : V[i]? = some (some (.ref b))) (hj : V[j]? = some (some (.str k)))
    (q : ∀ H', IsBook o H' b f s p as { B with aside := pt B.aside k x } → Fr1 o H o H' → QN V H') : wpT g (.sub (.attr (.var i) "aside") (.var j)) (.int x) V QN E H := by
  dsimp only [tsub]
  refine Zd1 hP ib hV ?_
  obtain ⟨ep, hf⟩ := ib.hs
  simp only [Zae, hj, hf]
  refine ⟨by rw [Zhp]; exact hl, fun ep' => ?_⟩
  rw [Zg5]
  exact q _ (ib.setAside ep' _) (Zi7 (by rw [ib.os]; simp))
end
include G U
theorem Zrb {v : AV} (ib : IsBook o H b f s p as B) (hk : Kn H v) (hz : B.Sz) (q : Ends (Zm2 B v) (fun B' => ∀ H', IsBook o H' b f s p as B' → Fr1 o H o H' → Q .none H') (fun cl => E cl H)) : CallOK c (n + 3) true "Book.open_purse" [.ref b, v] Q E H := by
  refine G.call (F := BK.f_Book_open_purse) U.open_purse rfl ?_
  have hA : c.P.attrs = BK.attrs := by rw [G.hP, U.attrs]
  show wpSs _ _ _ _ _ [some (.ref b), some v] _
  refine w_st fun K nx => ?_
  dsimp only [Zao, Zal, Zac, Zae]
  show CallOK _ _ _ _ [v] _ _ _
  refine Ziw G U hk ?_
  unfold Zm2 at q
  cases hn : Zbz v with
  | false => rw [hn] at q; exact q
  | true =>
    obtain ⟨k, rfl⟩ : ∃ k, v = .str k := ⟨_, Zcs hn⟩
    rw [hn] at q
    refine nx _ _ ?_
    refine w_st fun K nx => ?_
    dsimp only [Zax, Zak, Zae]
    refine Zdc hA ib rfl ?_
    dsimp only [c_in]
    refine Zph ib ?_
    replace q : Ends (if hs B.free k = true then .error "Taken" else .ok { B with free := pt B.free k 0, aside := pt B.aside k 0 }) (fun B' => ∀ H', IsBook o H' b f s p as B' → Fr1 o H o H' → Q .none H') (fun cl => E cl H) := q
    cases hh : hs B.free k with
    | true => rw [hh] at q; exact ⟨rfl, q⟩
    | false =>
      rw [hh] at q
      refine nx _ _ ?_
      refine w_st fun K nx => ?_
      dsimp only [Zaj, Zag]
      refine Zkr (k := k) hA ib hz.1 rfl rfl fun H1 ib1 f1 => nx _ _ ?_
      refine w_st fun K nx => ?_
      dsimp only [Zaj, Zag]
      exact Zlv (k := k) hA ib1 hz.2 rfl rfl fun H2 ib2 f2 => nx _ _ (q H2 ib2 (f1.trans f2))
theorem Zti {v a : AV} (hput : P.fns.lookup "Book.put" = some BK.f_Book_put) (ib : IsBook o H b f s p as B) (hk : Kn H v) (hka : Kn H a) (hz : B.Sz) (q : Ends (putQ B v a) (fun B' => ∀ H', IsBook o H' b f s p as B' → Fr1 o H o H' → Q .none H') (fun cl => E cl H)) : CallOK c (n + 3) true "Book.put" [.ref b, v, a] Q E H := by
  refine G.call (F := BK.f_Book_put) hput rfl ?_
  have hA : c.P.attrs = BK.attrs := by rw [G.hP, U.attrs]
  have hM : c.P.meths = BK.meths := by rw [G.hP, U.meths]
  show wpSs _ _ _ _ _ [some (.ref b), some v, some a] _
  refine w_st fun K nx => ?_
  dsimp only [Zao]
  refine Zbk hM (by decide) (by decide) ib rfl ?_
  dsimp only [Zac, Zae]
  show CallOK _ _ _ _ [.ref b, v] _ _ _
  refine Zck G U ib hk ?_
  unfold putQ at q
  cases hp : Zbn B v with
  | false => rw [hp] at q; exact q
  | true =>
    have hf := Zfu hp
    obtain ⟨k, rfl⟩ : ∃ k, v = .str k := ⟨_, (Zce hp).1⟩
    rw [hp] at q
    replace q : Ends (if Zb1 a = true then .ok { B with free := pt B.free k (Zda B (.str k) + Zc9 a) } else .error "NoAmount") (fun B' => ∀ H', IsBook o H' b f s p as B' → Fr1 o H o H' → Q .none H') (fun cl => E cl H) := q
    refine nx _ _ ?_
    refine w_st fun K nx => ?_
    dsimp only [Zaj, Zaw, Zau]
    refine Zdc hA ib rfl ?_
    dsimp only [Zae]
    refine Zel ib hf ?_
    dsimp only [Zal, Zac, Zae]
    show CallOK _ _ _ _ [a] _ _ _
    refine Zki G U hka ?_
    cases ha : Zb1 a with
    | false => rw [ha] at q; exact q
    | true =>
      obtain ⟨i, rfl⟩ : ∃ i, a = .int i := ⟨_, Zij ha⟩
      rw [ha] at q
      rw [if_pos rfl, Zb8]
      exact Zkr (k := k) hA ib hz.1 rfl rfl fun H1 ib1 f1 => nx _ _ (q H1 ib1 f1)
theorem Znh {v : AV} (ib : IsBook o H b f s p as B) (hk : Kn H v) (q : if Zbn B v then Q (.int (Zda B v)) H else E "NoPurse" H) : CallOK c (n + 3) true "Book.free_of" [.ref b, v] Q E H := by
  refine G.call (F := BK.f_Book_free_of) U.free_of rfl ?_
  have hA : c.P.attrs = BK.attrs := by rw [G.hP, U.attrs]
  have hM : c.P.meths = BK.meths := by rw [G.hP, U.meths]
  dsimp only [BK.f_Book_free_of, Ze6, v_0, Zag, Zae, Zaw, Zbm, Za9, x_ao, Zak, Za3, Zau, Zav, Za1, Zal, Zar, x_bm, Zbl, Zam, Zbg, Zap, Zaf, Zac, Za5, Zat, Zb7, Zbs, Zbp, Zbt, tv, wtg, Zb8, Zdd, Zet, Zcj, Zbu, Zdb, Zdk, c_lt, c_le, c_gt, c_ge, c_eq, c_ne, Zci, Zdp, c_in, Zdt, Zai, Ze9, Zde, Zas, Zdq, Zax, Za8, Zaj, Zao, Za6]
  refine Zbk hM (by decide) (by decide) ib rfl ?_
  dsimp only [v_0, Zag, Zae, Zaw, Zbm, Za9, x_ao, Zak, Za3, Zau, Zav, Za1, Zal, Zar, x_bm, Zbl, Zam, Zbg, Zap, Zaf, Zac, Za5, Zat, Zb7, Zbs, Zbp, Zbt, tv, wtg, Zb8, Zdd, Zet, Zcj, Zbu, Zdb, Zdk, c_lt, c_le, c_gt, c_ge, c_eq, c_ne, Zci, Zdp, c_in, Zdt, Zai, Ze9, Zde]
  refine Zck G U ib hk ?_
  cases hp : Zbn B v with
  | false => simp [hp] at q ⊢; exact q
  | true =>
    have hf := Zfu hp
    obtain ⟨k, rfl⟩ : ∃ k, v = .str k := ⟨_, (Zce hp).1⟩
    simp only [hp, if_true] at q ⊢
    exact Zdc hA ib rfl (Zel ib hf q)
theorem Zll {v : AV} (ib : IsBook o H b f s p as B) (hk : Kn H v) (hs' : ∀ k, hs B.free k = true → hs B.aside k = true) (q : if Zbn B v then Q (.int (Zd2 B v)) H else E "NoPurse" H) : CallOK c (n + 3) true "Book.aside_of" [.ref b, v] Q E H := by
  refine G.call (F := BK.f_Book_aside_of) U.aside_of rfl ?_
  have hA : c.P.attrs = BK.attrs := by rw [G.hP, U.attrs]
  have hM : c.P.meths = BK.meths := by rw [G.hP, U.meths]
  dsimp only [BK.f_Book_aside_of, Ze6, v_0, Zag, Zae, Zaw, Zbm, Za9, x_ao, Zak, Za3, Zau, Zav, Za1, Zal, Zar, x_bm, Zbl, Zam, Zbg, Zap, Zaf, Zac, Za5, Zat, Zb7, Zbs, Zbp, Zbt, tv, wtg, Zb8, Zdd, Zet, Zcj, Zbu, Zdb, Zdk, c_lt, c_le, c_gt, c_ge, c_eq, c_ne, Zci, Zdp, c_in, Zdt, Zai, Ze9, Zde, Zas, Zdq, Zax, Za8, Zaj, Zao, Za6]
  refine Zbk hM (by decide) (by decide) ib rfl ?_
  dsimp only [v_0, Zag, Zae, Zaw, Zbm, Za9, x_ao, Zak, Za3, Zau, Zav, Za1, Zal, Zar, x_bm, Zbl, Zam, Zbg, Zap, Zaf, Zac, Za5, Zat, Zb7, Zbs, Zbp, Zbt, tv, wtg, Zb8, Zdd, Zet, Zcj, Zbu, Zdb, Zdk, c_lt, c_le, c_gt, c_ge, c_eq, c_ne, Zci, Zdp, c_in, Zdt, Zai, Ze9, Zde]
  refine Zck G U ib hk ?_
  cases hp : Zbn B v with
  | false => simp [hp] at q ⊢; exact q
  | true =>
    have hf := Zgf (hs' _ (Zce hp).2)
    obtain ⟨k, rfl⟩ : ∃ k, v = .str k := ⟨_, (Zce hp).1⟩
    simp only [hp, if_true] at q ⊢
    exact Zd1 hA ib rfl (Zfb ib hf q)
end
end Mine
end
section
open PySem PySem.W PyProof.Rows PySem.Spec PySem.SeqAt PySem.Calls
namespace Mine
theorem Zgm {H : Zaa} {a b : Addr} {o : AObj} (h : up H a o b = none) : a ≠ b := fun e => by subst e; rw [Zad] at h; cases h
theorem st_a {g : Gx} {V : VV} {K : VV → Zaa → Prop} {E : String → Zaa → Prop} {H : Zaa} {i : Nat} {n cl : String} {a : Addr} {es : List (String × AV)} {x : AV} (hV : V[i]? = some (some (.ref a))) (hP : g.c.P.attrs.contains (cl, n) = true) (h : H a = some (.inst cl es)) (hl : es.length ≤ 100) (q : K V (up H a (.inst cl (putA es n x)))) : wpT g (.attr (.var i) n) x V K E H := by
  (dsimp only [tattr, Zae]; rw [hV])
  show match H a with | some (.inst cl es) => _ | _ => False
  rw [h]; exact ⟨hP, hl, q⟩
theorem Zea {H : Zaa} {a : Addr} {x : AObj} (h : H a = some x) : up H a x = H := by
  funext b
  by_cases e : b = a
  · subst e; rw [Zad, h]
  · rw [Zab e]
theorem Zpz {o : Addr → Option Role} {H : Zaa} : ∀ {i : Nat} {as : List Addr} {ps : List Pc}, pactsAt o H i as ps → ((dP ps as).map fun e => AV.str e.1) = ps.map fun e => .str e.name
  | _, [], [], _ => rfl
  | _, _ :: _, _ :: _, h => by simp only [dP, List.map_cons]; rw [Zpz h.2]
section
variable {c : Cx} {P : Pg} (G : Gd c P) (U : HasA P) {n : Nat} {md : Bool} {Q : AV → Zaa → Prop} {E : String → Zaa → Prop} {H : Zaa} {b : Addr} {B : Bk}
theorem Kn.open {H₂ : Zaa} {v : AV} {o : Addr → Option Role} (hb : H b = some (.book B)) (hold : ∀ a x, H a = some x → a ≠ b → H₂ a = some x ∧ o a = none) (k : Kn H v) : Kn H₂ v := by
  obtain ⟨⟨t, ht⟩, hl⟩ := k
  refine ⟨⟨t, ?_⟩, hl⟩
  cases v with
  | ref a =>
    simp only [Zfr] at ht ⊢
    cases e : H a with
    | none => rw [e] at ht; cases ht
    | some x =>
      have : a ≠ b := fun q => by subst q; rw [hb] at e; cases e; rw [hb] at ht; cases ht
      rw [(hold a x e this).1]; rw [e] at ht; exact ht
  | _ => exact ht
theorem IsBook.fresh {o : Addr → Option Role} {H₂ : Zaa} {f s p z : Addr} {as : List Addr} (ib : IsBook o H₂ b f s p as B) (hz : H₂ z = none) (y : AObj) : IsBook (fun a => if a = z then none else o a) (up H₂ z y) b f s p as B ∧ Fr1 o H₂ (fun a => if a = z then none else o a) (up H₂ z y) :=
  ⟨ib.congr fun a r x _ ho hx _ => by
      have : a ≠ z := fun q => by subst q; rw [hz] at hx; cases hx
      exact ⟨by simp only [this, if_false]; exact ho, by rw [Zab this]; exact hx⟩,
    ⟨fun a x h k => by
      have : a ≠ z := fun q => by subst q; rw [hz] at h; cases h
      exact ⟨by rw [Zab this]; exact h, by simp only [this, if_false]; exact k⟩, fun _ h => Zc3 h⟩⟩
include G U
theorem Zve {v : AV} (hb : H b = some (.book B)) (hk : Kn H v) (hz : B.Sz) (q : Ends (Zm2 B v) (fun B' => Q .none (up H b (.book B'))) (fun cl => E cl H)) : CallOK c (n + 3) true "Book.open_purse" [.ref b, v] Q E H := by
  refine Zbo hb fun H₂ o f s p as ib hold => Zrb G U ib (hk.open hb hold) hz ?_
  revert q
  cases Zm2 B v with
  | ok B' => exact fun q H' ib' fr => ⟨o, f, s, p, as, B', ib', fr, .inl ⟨(fun _ h => by cases h), q⟩⟩
  | error cl => exact fun q => ⟨o, f, s, p, as, B, ib, .refl, by rw [Zea hb]; exact q⟩
theorem Zu6 {v a : AV} (hput : P.fns.lookup "Book.put" = some BK.f_Book_put) (hb : H b = some (.book B)) (hk : Kn H v) (hka : Kn H a) (hz : B.Sz) (q : Ends (putQ B v a) (fun B' => Q .none (up H b (.book B'))) (fun cl => E cl H)) : CallOK c (n + 3) true "Book.put" [.ref b, v, a] Q E H := by
  refine Zbo hb fun H₂ o f s p as ib hold => Zti G U hput ib (hk.open hb hold) (hka.open hb hold) hz ?_
  revert q
  cases putQ B v a with
  | ok B' => exact fun q H' ib' fr => ⟨o, f, s, p, as, B', ib', fr, .inl ⟨(fun _ h => by cases h), q⟩⟩
  | error cl => exact fun q => ⟨o, f, s, p, as, B, ib, .refl, by rw [Zea hb]; exact q⟩
theorem Zmh {v : AV} (hb : H b = some (.book B)) (hk : Kn H v) (q : if Zbn B v then Q (.int (Zda B v)) H else E "NoPurse" H) : CallOK c (n + 3) true "Book.free_of" [.ref b, v] Q E H := by
  refine Zbo hb fun H₂ o f s p as ib hold => Znh G U ib (hk.open hb hold) ?_
  revert q
  cases Zbn B v with
  | true => exact fun q => ⟨o, f, s, p, as, B, ib, .refl, .inl ⟨(fun _ h => by cases h), by rw [Zea hb]; exact q⟩⟩
  | false => exact fun q => ⟨o, f, s, p, as, B, ib, .refl, by rw [Zea hb]; exact q⟩
theorem Zkh {v : AV} (hb : H b = some (.book B)) (hk : Kn H v) (hs' : ∀ k, hs B.free k = true → hs B.aside k = true) (q : if Zbn B v then Q (.int (Zd2 B v)) H else E "NoPurse" H) : CallOK c (n + 3) true "Book.aside_of" [.ref b, v] Q E H := by
  refine Zbo hb fun H₂ o f s p as ib hold => Zll G U ib (hk.open hb hold) hs' ?_
  revert q
  cases Zbn B v with
  | true => exact fun q => ⟨o, f, s, p, as, B, ib, .refl, .inl ⟨(fun _ h => by cases h), by rw [Zea hb]; exact q⟩⟩
  | false => exact fun q => ⟨o, f, s, p, as, B, ib, .refl, by rw [Zea hb]; exact q⟩
theorem Zdy {H₂ : Zaa} {o : Addr → Option Role} {f s p z : Addr} {as : List Addr} (hb : H b = some (.book B)) (ib : IsBook o H₂ b f s p as B) (hold : ∀ a x, H a = some x → a ≠ b → H₂ a = some x ∧ o a = none) (hz : H₂ z = none) : H z = none := by
  cases e : H z with
  | none => rfl
  | some x =>
    by_cases q : z = b
    · subst q; rw [ib.hb] at hz; cases hz
    · rw [(hold z x e q).1] at hz; cases hz
theorem Znu (hb : H b = some (.book B)) (hp : B.pacts.length ≤ sizeLine) (q : ∀ z, H z = none → Q (.ref z) (up H z (.list (B.pacts.map fun e => .str e.name)))) : CallOK c (n + 1) true "Book.told" [.ref b] Q E H := by
  refine Zbo hb fun H₂ o f s p as ib hold => ?_
  refine G.call (F := BK.f_Book_told) U.told rfl ?_
  have hA : c.P.attrs = BK.attrs := by rw [G.hP, U.attrs]
  dsimp only [BK.f_Book_told, Ze6, v_0, Zag, Zae, Zaw, Zbm, Za9, x_ao, Zak, Za3, Zau, Zav, Za1, Zal, Zar, x_bm, Zbl, Zam, Zbg, Zap, Zaf, Zac, Za5, Zat, Zb7, Zbs, Zbp, Zbt, tv, wtg, Zb8, Zdd, Zet, Zcj, Zbu, Zdb, Zdk, c_lt, c_le, c_gt, c_ge, c_eq, c_ne, Zci, Zdp, c_in, Zdt, Zai, Ze9, Zde, Zas, Zdq, Zax, Za8, Zaj, Zao, Za6]
  refine Zco hA ib rfl ?_
  obtain ⟨ep, hf⟩ := ib.hp
  have e2 := Zpz ib.ps
  have e1 : (dP B.pacts as).length = B.pacts.length := by have := congrArg List.length e2; simpa using this
  simp only [Zjk, Ze1, Zfh, Zoh, Zgb, Ze2, Zhd, hf]
  refine ⟨trivial, by rw [e1]; exact hp, fun z hz => ?_⟩
  obtain ⟨i1, i2⟩ := ib.fresh hz (.list ((dP B.pacts as).map fun e => .str e.1))
  refine ⟨_, f, s, p, as, B, i1, i2, .inr ⟨z, _, rfl, Zdy G U hb ib hold hz, Zad, by simp, ?_⟩⟩
  rw [Zea hb, e2]
  exact q z (Zdy G U hb ib hold hz)
omit G U in
theorem Zrf {g : Gx} {V : VV} (hP : g.c = c) (G : Gd g.c P) (U : HasA P) (hn : ∃ m, g.n = m + 1) (q : ∀ a, H a = none → Q (.ref a) (up H a (.book ⟨0, [], [], []⟩))) : wpX g (.new "Book" []) V Q E H := by
  obtain ⟨m, hm⟩ := hn
  (dsimp only [Zch, Zaf]; rw [hm])
  intro a ha
  refine CallOK.post (Q := fun r H' => r = .none ∧ ∃ o f s p, IsBook o H' a f s p [] ⟨0, [], [], []⟩ ∧ ∀ x y, x ≠ a → H x = some y → H' x = some y ∧ o x = none) (E := fun _ _ => False) ?_ (fun r H' h => ?_) (fun _ _ h => h.elim)
  · refine G.call (F := BK.f_Book___init__) U.init rfl ?_
    have hA : g.c.P.attrs = BK.attrs := by rw [G.hP, U.attrs]
    have hC : ∀ n, BK.attrs.contains ("Book", n) = true → g.c.P.attrs.contains ("Book", n) = true := fun n h => by rw [hA]; exact h
    refine w_st fun K nx => ?_
    dsimp only [Zaj, Zag]
    refine st_a rfl (hC _ rfl) Zad (by decide) (nx _ _ ?_)
    refine w_st fun K nx => ?_
    dsimp only [Zaj, Zap]
    intro f hf
    have fa : a ≠ f := Zgm hf
    refine st_a rfl (hC _ rfl) (by rw [Zab fa, Zad]) (by decide) (nx _ _ ?_)
    refine w_st fun K nx => ?_
    dsimp only [Zaj, Zap]
    intro s hs
    have sa : a ≠ s := Zgm hs
    have sf : f ≠ s := Zgm (by rw [Zab sa.symm] at hs; exact hs)
    refine st_a rfl (hC _ rfl) (by rw [Zab sa, Zad]) (by exact (show 2 ≤ 100 by decide)) (nx _ _ ?_)
    refine w_st fun K nx => ?_
    dsimp only [Zaj, Zap]
    intro p hp
    have pa : a ≠ p := Zgm hp
    have ps : s ≠ p := Zgm (by rw [Zab pa.symm] at hp; exact hp)
    have pf : f ≠ p := Zgm (by rw [Zab pa.symm, Zab ps.symm, Zab pa.symm] at hp; exact hp)
    refine st_a rfl (hC _ rfl) (by rw [Zab pa, Zad]) (by exact (show 3 ≤ 100 by decide)) (nx _ _ ?_)
    refine ⟨rfl, fun x => if x = a then some .self else if x = f then some .free else if x = s then some .aside else if x = p then some .pacts else none, f, s, p, ⟨by simp, by simp [fa.symm], by simp [sa.symm, sf.symm], by simp [pa.symm, pf.symm, ps.symm], Zad, ⟨0, ?_⟩, ⟨0, ?_⟩, ⟨0, ?_⟩, trivial⟩, fun x y hx hy => ?_⟩
    · rw [Zab fa.symm, Zab pf, Zab fa.symm, Zab sf, Zab fa.symm, Zad]; rfl
    · rw [Zab sa.symm, Zab ps, Zab sa.symm, Zad]; rfl
    · rw [Zab pa.symm, Zad]; rfl
    · have xf : x ≠ f := fun e => by subst e; rw [Zab hx, Zab hx, hy] at hf; cases hf
      have xs : x ≠ s := fun e => by subst e; rw [Zab hx, Zab xf, Zab hx, Zab hx, hy] at hs; cases hs
      have xp : x ≠ p := fun e => by subst e; rw [Zab hx, Zab xs, Zab hx, Zab xf, Zab hx, Zab hx, hy] at hp; cases hp
      exact ⟨by rw [Zab hx, Zab xp, Zab hx, Zab xs, Zab hx, Zab xf, Zab hx, Zab hx, hy], by simp [hx, xf, xs, xp]⟩
  · obtain ⟨rfl, o, f, s, p, ib, hold⟩ := h
    refine ⟨_, fun H₁ r => r.pack ib fun x y e => ?_, rfl, q a ha⟩
    by_cases w : x = a
    · subst w; rw [Zad] at e; cases e; exact .inl ⟨rfl, rfl⟩
    · rw [Zab w] at e
      exact .inr ⟨w, (hold x y w e).2, (hold x y w e).1⟩
end
end Mine
end
section
open PySem PySem.W PyProof.Rows PySem.Spec PySem.SeqAt PySem.Calls
namespace Mine
noncomputable def cell (ns : List Int) (k : Nat) : Int := (ns[k]?).getD 0
theorem Zi5 {c : Cx} {P : Pg} (G : Gd c P) (hf : P.fns.lookup "_law_cell_at" = some BK.f__law_cell_at) {n : Nat} {md : Bool} {Q : AV → Zaa → Prop} {E : String → Zaa → Prop} {H : Zaa} {sp : Addr} {ns : List Int} {k : Int} (hk : 0 ≤ k) (hs : H sp = some (.script ns)) (hl : ns.length < 2 ^ 62)
    (q : Q (.int (cell ns k.toNat)) H) : CallOK c (n + 1) md "_law_cell_at" [.ref sp, .int k] Q E H := by
  refine G.call (F := BK.f__law_cell_at) hf rfl ?_
  simp [BK.f__law_cell_at, Zjk, Ze1, Zfh, Zoh, Zgb, Ze2, Zhd, hs, hl, Ze6, Zg2, Zf9, Zlu, v_0, Zag, Zae, Zaw, Zbm, Za9, x_ao, Zak, Za3, Zau, Zav, Za1, Zal, Zar, x_bm, Zbl, Zam, Zbg, Zap, Zaf, Zac, Za5, Zat, Zb7, Zbs, Zbp, Zbt, tv, tsub, tattr, wtg, Zb8, Zdd, Zet, Zcj, Zbu, Zdb, Zdk, c_lt, c_le, c_gt, c_ge, c_eq, c_ne, Zci, Zdp, c_in, Zdt, Zai, Ze9, Zde, Zas, Zdq, Zax, Za8, Zaj, Zao, Za6]
  obtain ⟨j, rfl⟩ := Int.eq_ofNat_of_zero_le hk
  by_cases h : j < ns.length
  · simp [h]
    refine ⟨by lia, ?_⟩
    simpa [cell, h] using q
  · simp [h]
    simpa [cell, h] using q
theorem Zcc {x m : Int} (h : 0 < m) : 0 ≤ x.fmod m := by rw [Int.fmod_eq_emod_of_nonneg _ (by omega)]; exact Int.emod_nonneg _ (by omega)
theorem Zcm {x m : Int} (h : 0 < m) : x.fmod m < m := by rw [Int.fmod_eq_emod_of_nonneg _ (by omega)]; exact Int.emod_lt_of_pos _ h
theorem Zgj {H : Zaa} {a b : Addr} {o o' : AObj} (h : H b = some o') (k : H a = none) : up H a o b = some o' := by
  rw [Zab (fun z => by rw [z, k] at h; cases h)]; exact h
noncomputable def Ext (H H' : Zaa) : Prop := ∀ a o, H a = some o → H' a = some o
theorem Ext.refl {H : Zaa} : Ext H H := fun _ _ h => h
theorem Ext.trans {H H' H'' : Zaa} (x : Ext H H') (y : Ext H' H'') : Ext H H'' := fun a o h => y a o (x a o h)
theorem Ext.none {H H' : Zaa} {z : Addr} (x : Ext H H') (h : H' z = none) : H z = none := by
  cases q : H z with
  | none => rfl
  | some o => rw [x z o q] at h; cases h
theorem Ext.own {H H' : Zaa} {z : Addr} {o : AObj} (x : Ext H H') (h : H z = Option.none) : Ext H (up H' z o) := fun a o' e => by
  rw [Zab (fun q => by rw [q, h] at e; cases e)]; exact x a o' e
theorem Ext.new {H H' : Zaa} {z : Addr} {o : AObj} (x : Ext H H') (h : H' z = Option.none) : Ext H (up H' z o) := x.own (x.none h)
theorem Zvr {H : Zaa} {a b : Addr} {o : AObj} (h : H a = some o) (k : H b = none) : a ≠ b := fun q => by rw [q, k] at h; cases h
noncomputable def txs (l : List Str) : List AV := l.map AV.str
theorem Za2 {l : List Str} : (txs l).length = l.length := by simp [txs]
theorem Zeb {l : List Str} {k : Nat} {x : AV} (h : (txs l)[k]? = some x) : ∃ s, x = .str s ∧ l[k]? = some s := by
  unfold txs at h
  rw [List.getElem?_map, Option.map_eq_some_iff] at h
  obtain ⟨s, h1, h2⟩ := h
  exact ⟨s, h2.symm, h1⟩
theorem Zdv {l : List Str} {s : Str} : txs l ++ [.str s] = txs (l ++ [s]) := by simp [txs]
theorem Zbw {α : Type} {l : List α} {k : Nat} {x : α} (h : l[k]? = some x) : l.take (k + 1) = l.take k ++ [x] := by
  rw [List.take_add_one, h]; rfl
theorem Zg4 {H : Zaa} : ∀ {l : List Str}, RDs H (txs l) (l.map PyData.str)
  | [] => .nil
  | s :: r => .cons (.str s) Zg4
theorem Zfl : ∀ {l : List Str}, Zdi (l.map PyData.str) = true
  | [] => rfl
  | s :: r => by simp [Zdi, Zhu, Zfl (l := r)]
theorem Zj6 : ∀ {l : List Str}, PyData.depthAll (l.map PyData.str) = 0
  | [] => rfl
  | s :: r => by simp [PyData.depthAll, PyData.depth, Zj6 (l := r)]
theorem Zos {l : List Str} : okD (.list (l.map PyData.str)) := ⟨by simp [Zhu, Zfl], by simp [PyData.depth, Zj6]⟩
theorem Zvl {s : Str} : okD (.str s) := ⟨rfl, Nat.zero_le _⟩
theorem Zi2 : ∀ {l l' : List Str}, PyData.eqvAll (l.map PyData.str) (l'.map PyData.str) = decide (l = l')
  | [], [] => rfl
  | [], _ :: _ => rfl
  | _ :: _, [] => rfl
  | s :: r, s' :: r' => by
    simp only [List.map_cons, Zxy, Zwl, Zi2 (l := r) (l' := r'), List.cons.injEq]
    by_cases h : s = s' <;> simp [h]
theorem Zqf {l : List Str} {s : Str} : ((l.map PyData.str).any fun y => PyData.eqv y (.str s)) = decide (s ∈ l) := by
  induction l with
  | nil => rfl
  | cons t r ih =>
    simp only [List.map_cons, List.any_cons, ih, Zwl, List.mem_cons]
    by_cases h : s = t
    · simp [h]
    · have : t ≠ s := fun z => h z.symm
      simp [h, this]
section
variable {Q : AV → Zaa → Prop} {H : Zaa}
theorem Znp {no : Bool} {x : Str} {a : Addr} {l : List Str} (h : H a = some (.list (txs l))) (q : Q (.bool (decide (x ∈ l) != no)) H) : win no (.str x) (.ref a) Q H := by
  simp only [Zd4, Zlc, h]
  refine ⟨.str x, l.map PyData.str, .str x, Zg4, Zvl, Zfl, ?_⟩
  rw [Zqf, ← Ziv]; exact q
theorem Zqm {no : Bool} {x : Str} {a : Addr} {ep : Nat} {es : List (Str × AV)} (h : H a = some (.dict ep es)) (q : Q (.bool ((Zb0 es x).isSome != no)) H) : win no (.str x) (.ref a) Q H := by
  simp only [Zd4, Zlc, h, ← Ziv]; exact q
theorem Zex {ne : Bool} {a b : Addr} {l l' : List Str} (h : H a = some (.list (txs l))) (h' : H b = some (.list (txs l'))) (q : Q (.bool (decide (l = l') != ne)) H) : weq ne (.ref a) (.ref b) Q H := by
  simp only [weq, h]
  refine ⟨.list (l.map PyData.str), .list (l'.map PyData.str), .list h Zg4, .list h' Zg4, Zos, Zos, ?_⟩
  rw [Zxx, Zi2, ← Ziv]; exact q
end
theorem Zr7 {Q : AV → Zaa → Prop} {H : Zaa} {u v : AV} : wcmp .Eq u v Q H = weq false u v Q H := rfl
theorem Znm {Q : AV → Zaa → Prop} {H : Zaa} {u v : AV} : wcmp .NotEq u v Q H = weq true u v Q H := rfl
section
variable {Q : AV → Zaa → Prop} {H : Zaa}
theorem Zog {a : Addr} {xs : List AV} (h : H a = some (.list xs)) (hl : xs.length ≤ 100000) (q : Q (.int xs.length) H) : Zd8 md .len [.ref a] Q H := by
  simp only [Zjk, Ze1, Zfh, Zoh, Zgb, Ze2, Zhd, h]; exact ⟨by omega, q⟩
theorem Zlz {a : Addr} {xs : List AV} (h : H a = some (.list xs)) (hl : xs.length ≤ 100000) (q : ∀ z, H z = none → Q (.ref z) (up H z (.list xs))) : Zd8 md .list [.ref a] Q H := by
  simp only [Zjk, Ze1, Zfh, Zoh, Zgb, Ze2, Zhd, h]; exact ⟨by simp [sizeLine]; lia, q⟩
theorem Zs7 {a : Addr} {l : List Str} {k : Nat} {s : Str} (h : H a = some (.list (txs l))) (hk : l[k]? = some s) (hl : l.length ≤ 1000) (q : Q (.str s) H) : wsub (.ref a) (.int k) Q H := by
  have hlt : k < l.length := (List.getElem?_eq_some_iff.mp hk).1
  simp only [Zg2, Zf9, Zlu, h]
  refine ⟨k, .str s, by simp [Zgk, hlt, Za2], by lia, by lia, by simp [txs, hk], q⟩
theorem Zek {a : Addr} {l : List Str} {i : Int} (h : H a = some (.list (txs l))) (h0 : 0 ≤ i) (h1 : i < l.length) (hl : l.length ≤ 1000) (q : ∀ s ∈ l, Q (.str s) H) : wsub (.ref a) (.int i) Q H := by
  have hlt : i.toNat < l.length := by lia
  have e : i = ((i.toNat : Nat) : Int) := by lia
  rw [e]
  exact Zs7 h (List.getElem?_eq_getElem hlt) hl (q _ (List.getElem_mem hlt))
theorem Zkz {a : Addr} {l : List Str} (h : H a = some (.list (txs l))) (hl : l.length ≤ 1000) (q : ∀ z, H z = none → Q (.ref z) (up H z (.list (txs l)))) : Zd8 md .list [.ref a] Q H :=
  Zlz h (by rw [Za2]; exact Nat.le_trans hl (by decide)) q
theorem Zb5 {p : Addr} {xs : List AV} {v : AV} (h : H p = some (.list xs)) (hl : xs.length ≤ 100000) (q : Q .none (up H p (.list (xs ++ [v])))) : wbm (.ref p) .append [v] Q H := by
  simp only [Zxp, Zvv, Zvu, h]; exact ⟨by simp [sizeLine]; lia, q⟩
end
section
variable {g : Gx} {QN : VV → Zaa → Prop} {QR : AV → Zaa → Prop} {E : String → VV → Zaa → Prop} {V : VV} {H : Zaa}
end
theorem Zcw {QN : VV → Zaa → Prop} {stp : AV → (VV → Zaa → Prop) → VV → Zaa → Prop} {v : AV} {V : VV} {H : Zaa} {xs : List AV} (hx : Zan H v = some xs) (J : Nat → VV → Zaa → Prop) (h0 : J 0 V H)
    (hs : ∀ I : Nat → VV → Zaa → Prop, (∀ k V' H', J k V' H' → I k V' H') → ∀ k V' H', J k V' H' → Zc4 H H' v ∧ (k = xs.length → QN V' H') ∧ ∀ x, xs[k]? = some x → stp x (I (k + 1)) V' H') : WFor QN stp v V H :=
  wfor hx J h0 (hs J fun _ _ _ h => h)
theorem Zd9 {Q : AV → Zaa → Prop} {stp : AV → (Option AV → Zaa → Prop) → Zaa → Prop} {v : AV} {H : Zaa} {xs : List AV} (hx : Zan H v = some xs) (hl : xs.length ≤ sizeLine) (f : AV → Option AV)
    (hs : ∀ x ∈ xs, ∀ H', Ext H H' → ∀ nx : Option AV → Zaa → Prop, (∀ H'', Ext H' H'' → nx (f x) H'') → stp x nx H')
    (q : ∀ a H', Ext H H' → H' a = none → Q (.ref a) (up H' a (.list (xs.filterMap f)))) : Zkj Q stp v H := by
  refine ⟨xs, hx, hl, fun k acc H' => Ext H H' ∧ acc = (xs.take k).filterMap f, ⟨.refl, by simp⟩, ?_⟩
  rintro k acc H' ⟨hE, rfl⟩
  refine ⟨?_, fun hk a ha => ?_, fun x hxk => ?_⟩
  · cases v with
    | ref a =>
      simp only [Zan] at hx
      simp only [Zc4]
      cases q : H a with
      | none => rw [q] at hx; cases hx
      | some o => exact hE a o q
    | _ => trivial
  · have := q a H' hE ha
    rw [hk, List.take_length]; exact this
  · refine hs x (List.mem_of_getElem? hxk) H' hE _ fun H'' hE' => ⟨hE.trans hE', ?_⟩
    rw [Zbw hxk, List.filterMap_append]
    cases hf : f x <;> simp [hf]
section
variable {c : Cx} {P : Pg} (G : Gd c P) {n : Nat} {md : Bool} {Q : AV → Zaa → Prop} {E : String → Zaa → Prop} {H : Zaa}
noncomputable def mixed (a b : Int) : Int := (a * 6364136223846793005 + b * 1442695040888963407 + 1013904223).fmod 2305843009213693951
include G in
theorem Zrh (hf : P.fns.lookup "_law_mixed" = some BK.f__law_mixed) {a b : Int} (q : Q (.int (mixed a b)) H) : CallOK c (n + 1) md "_law_mixed" [.int a, .int b] Q E H := by
  refine G.call (F := BK.f__law_mixed) hf rfl ?_
  simp [BK.f__law_mixed, Ze6, v_0, Zag, Zae, Zaw, Zbm, Za9, x_ao, Zak, Za3, Zau, Zav, Za1, Zal, Zar, x_bm, Zbl, Zam, Zbg, Zap, Zaf, Zac, Za5, Zat, Zb7, Zbs, Zbp, Zbt, tv, tsub, tattr, wtg, Zb8, Zdd, Zet, Zcj, Zbu, Zdb, Zdk, c_lt, c_le, c_gt, c_ge, c_eq, c_ne, Zci, Zdp, c_in, Zdt, Zai, Ze9, Zde, Zas, Zdq, Zax, Za8, Zaj, Zao, Za6]
  exact ⟨IntMulOk.of_right (by decide +kernel), IntMulOk.of_right (by decide +kernel), q⟩
end
section
variable {c : Cx} {P : Pg} (G : Gd c P) {n : Nat} {Q : AV → Zaa → Prop} {E : String → Zaa → Prop} {H : Zaa}
end
theorem Zeh {l : List (Str × Int)} {e : Str × Int} {s : Str} : lk (e :: l) s = if e.1 = s then some e.2 else lk l s := by
  unfold lk
  rw [List.find?_cons]
  by_cases h : e.1 = s <;> simp [h]
theorem Zv1 {l : List (Str × Int)} {k s : Str} {x : Int} : lk (l.map fun e => if e.1 = k then (e.1, x) else e) s = if s = k then (lk l k).map (fun _ => x) else lk l s := by
  induction l with
  | nil => by_cases h : s = k <;> simp [h, lk]
  | cons e r ih =>
    rw [List.map_cons, Zeh, Zeh, Zeh, ih]
    by_cases h : e.1 = k
    · by_cases h2 : s = k
      · simp [h, h2]
      · have : ¬ k = s := fun e => h2 e.symm
        simp [h, h2, this]
    · by_cases h2 : s = k
      · simp [h, h2]
      · simp [h, h2]
theorem Zv3 {l : List (Str × Int)} {k s : Str} {x : Int} (h : lk l k = none) : lk (l ++ [(k, x)]) s = if s = k then some x else lk l s := by
  induction l with
  | nil => rw [List.nil_append, Zeh]; by_cases h2 : s = k <;> simp [h2, lk] ; exact fun e => absurd e.symm h2
  | cons e r ih =>
    rw [Zeh] at h
    by_cases h1 : e.1 = k
    · simp [h1] at h
    · rw [if_neg h1] at h
      rw [List.cons_append, Zeh, Zeh, ih h]
      by_cases h2 : s = k
      · simp [h2, h1]
      · simp [h2]
set_option tactic.hygienic true in
theorem Ztu {l : List (Str × Int)} {k s : Str} {x : Int} : lk (pt l k x) s = if s = k then some x else lk l s := by
  unfold pt
  split
  · rename_i h
    rw [Zv1]
    obtain ⟨y, hy⟩ := Option.isSome_iff_exists.mp h
    rw [hy]; rfl
  · rename_i h
    exact Zv3 (by simpa using h)
theorem Zxv {l : List (Str × Int)} {k s : Str} {x : Int} : hs (pt l k x) s = (decide (s = k) || hs l s) := by
  unfold hs; rw [Ztu]; by_cases h : s = k <;> simp [h]
end Mine
end
section
open PySem PySem.W PyProof.Rows PySem.Spec PySem.SeqAt PySem.Calls
namespace Mine
noncomputable def pAt : List Pc → Str → Option (Nat × Pc)
  | [], _ => none
  | q :: r, k => if q.name = k then some (0, q) else (pAt r k).map fun e => (e.1 + 1, e.2)
theorem Zfw {ps : List Pc} {k : Str} {j : Nat} {q : Pc} (h : pAt ps k = some (j, q)) : ps[j]? = some q ∧ q.name = k := by
  induction ps generalizing j with
  | nil => cases h
  | cons q' r ih =>
    unfold pAt at h
    by_cases e : q'.name = k
    · rw [if_pos e] at h; cases h; exact ⟨rfl, e⟩
    · rw [if_neg e] at h
      obtain ⟨⟨j', q''⟩, h1, h2⟩ := Option.map_eq_some_iff.mp h
      cases h2
      exact ih h1
section
variable {o : Addr → Option Role} {H H' : Zaa}
theorem Zeg {i : Nat} {as : List Addr} {ps : List Pc} (h : pactsAt o H i as ps) {k : Str} : Zb0 (dP ps as) k = (pAt ps k).bind fun e => (as[e.1]?).map .ref := by
  induction ps generalizing i as with
  | nil => cases as with
    | nil => rfl
    | cons => exact h.elim
  | cons q qs ih =>
    cases as with
    | nil => exact h.elim
    | cons a as =>
    show Zb0 ((q.name, .ref a) :: dP qs as) k = _
    unfold Zb0 pAt
    rw [List.find?_cons]
    by_cases e : q.name = k
    · rw [if_pos e, show decide ((q.name, AV.ref a).1 = k) = true from decide_eq_true e]; rfl
    · rw [if_neg e, show decide ((q.name, AV.ref a).1 = k) = false from decide_eq_false e]
      have := ih h.2
      unfold Zb0 at this
      show Option.map (·.2) (List.find? (fun e => decide (e.1 = k)) (dP qs as)) = _
      rw [this]
      cases pAt qs k <;> rfl
theorem Zcr {i : Nat} {as : List Addr} {ps : List Pc} {j : Nat} {q : Pc} (h : pactsAt o H i as ps) (e : ps[j]? = some q) : ∃ a, as[j]? = some a ∧ IsPact o H (i + j) a q := by
  induction ps generalizing i as j with
  | nil => cases e
  | cons q' qs ih =>
    cases as with
    | nil => exact h.elim
    | cons a as =>
      cases j with
      | zero => cases e; exact ⟨a, rfl, h.1⟩
      | succ j =>
        obtain ⟨a', h1, h2⟩ := ih h.2 e
        exact ⟨a', h1, by rw [← Nat.add_assoc, Nat.add_right_comm]; exact h2⟩
theorem Zow {a b : Nat} (h : a ≠ b) : Role.pact a ≠ .pact b := fun z => h (Role.pact.inj z)
theorem Zss {a b : Nat} (h : a ≠ b) : Role.inside a ≠ .inside b := fun z => h (Role.inside.inj z)
theorem Zky {i : Nat} {as : List Addr} {ps : List Pc} {j : Nat} {a : Addr} {q : Pc} (h : pactsAt o H i as ps) (k : KB (fun r => r ≠ .pact (i + j) ∧ r ≠ .inside (i + j)) o o H H') (e : as[j]? = some a) (hq : IsPact o H' (i + j) a q) : pactsAt o H' i as (ps.set j q) := by
  induction ps generalizing i as j with
  | nil => cases as with
    | nil => cases e
    | cons => exact h.elim
  | cons q' qs ih =>
    cases as with
    | nil => exact h.elim
    | cons b as =>
      cases j with
      | zero =>
        cases e
        refine ⟨hq, h.2.congr k ⟨(fun z => by cases z), fun z => by cases z⟩ fun m hm => ?_⟩
        have hne : m ≠ i + 0 := Nat.ne_of_gt hm
        exact ⟨⟨Zow hne, fun z => by cases z⟩, (fun z => by cases z), Zss hne⟩
      | succ j =>
        have hne : i ≠ i + (j + 1) := Nat.ne_of_lt (Nat.lt_add_of_pos_right (Nat.succ_pos j))
        refine ⟨h.1.congr k ⟨(fun z => by cases z), fun z => by cases z⟩ ⟨⟨Zow hne, fun z => by cases z⟩, (fun z => by cases z), Zss hne⟩, ?_⟩
        rw [show i + (j + 1) = i + 1 + j by rw [← Nat.add_assoc, Nat.add_right_comm]] at k hq
        exact ih h.2 k e hq
theorem Zwo {ps : List Pc} {as : List Addr} {j : Nat} {q q' : Pc} (h : ps[j]? = some q) (e : q'.name = q.name) : dP (ps.set j q') as = dP ps as := by
  induction ps generalizing as j with
  | nil => cases h
  | cons p ps ih =>
    cases as with
    | nil => cases j <;> rfl
    | cons a as =>
      cases j with
      | zero => cases h; show (q'.name, AV.ref a) :: dP ps as = _; rw [e]; rfl
      | succ j => show (p.name, AV.ref a) :: dP (ps.set j q') as = _; rw [ih h]; rfl
theorem IsBook.setPact {b f s p a : Addr} {as : List Addr} {B : Bk} {j : Nat} {q q' : Pc} (ib : IsBook o H b f s p as B) (hj : B.pacts[j]? = some q) (ha : as[j]? = some a) (k : KB (fun r => r ≠ .pact j ∧ r ≠ .inside j) o o H H') (hq : IsPact o H' j a q') (hn : q'.name = q.name) : IsBook o H' b f s p as { B with pacts := B.pacts.set j q' } := by
  obtain ⟨e1, h1⟩ := ib.hf
  obtain ⟨e2, h2⟩ := ib.hs
  obtain ⟨e3, h3⟩ := ib.hp
  have n : ∀ {r : Role}, (∀ i, r ≠ .pact i) → (∀ i, r ≠ .inside i) → r ≠ .pact j ∧ r ≠ .inside j := fun h h' => ⟨h j, h' j⟩
  refine ⟨ib.ob, ib.of, ib.os, ib.op, (k b _ _ ⟨(fun z => by cases z), fun z => by cases z⟩ ib.ob ib.hb rfl).2, ⟨e1, (k f _ _ ⟨(fun z => by cases z), fun z => by cases z⟩ ib.of h1 rfl).2⟩, ⟨e2, (k s _ _ ⟨(fun z => by cases z), fun z => by cases z⟩ ib.os h2 rfl).2⟩, ⟨e3, ?_⟩, ?_⟩
  · show H' p = some (.dict e3 (dP (B.pacts.set j q') as))
    rw [Zwo hj hn]; exact (k p _ _ ⟨(fun z => by cases z), fun z => by cases z⟩ ib.op h3 rfl).2
  · exact Zky ib.ps (by rw [Nat.zero_add]; exact k) ha (by rw [Nat.zero_add]; exact hq)
end
noncomputable def Zcp (B : Bk) : AV → Option (Nat × Pc)
  | .str k => if isNm k then pAt B.pacts k else none
  | _ => none
structure HasP (P : Pg) : Prop where
  a : HasA P
  need_pact : P.fns.lookup "Book.need_pact" = some BK.f_Book_need_pact
  need_open : P.fns.lookup "Book.need_open" = some BK.f_Book_need_open
section
variable {c : Cx} {P : Pg} (G : Gd c P) (U : HasP P) {n : Nat} {md : Bool} {Q : AV → Zaa → Prop} {E : String → Zaa → Prop} {H : Zaa} {o : Addr → Option Role} {b f s p : Addr} {as : List Addr} {B : Bk}
theorem Zgu {k : Str} {no : Bool} (ib : IsBook o H b f s p as B) (q : Q (.bool ((pAt B.pacts k).isSome != no)) H) : win no (.str k) (.ref p) Q H := by
  obtain ⟨ep, hp⟩ := ib.hp
  (dsimp only [Zd4]; rw [hp])
  show Q (.bool (nt no (Zb0 (dP B.pacts as) k).isSome)) H
  rw [Zeg ib.ps, ← Ziv]
  cases e : pAt B.pacts k with
  | none => rw [e] at q; exact q
  | some x =>
    obtain ⟨a, h1, _⟩ := Zcr ib.ps (Zfw (j := x.1) (q := x.2) e).1
    rw [e] at q
    show Q (.bool (((as[x.1]?).map AV.ref).isSome != no)) H
    rw [h1]; exact q
theorem Zfa {k : Str} {j : Nat} {x : Pc} (ib : IsBook o H b f s p as B) (e : pAt B.pacts k = some (j, x)) (q : ∀ a, as[j]? = some a → IsPact o H j a x → Q (.ref a) H) : wsub (.ref p) (.str k) Q H := by
  obtain ⟨ep, hp⟩ := ib.hp
  obtain ⟨a, h1, h2⟩ := Zcr ib.ps (Zfw e).1
  (dsimp only [Zf9]; rw [hp])
  refine ⟨.ref a, ?_, q a h1 (by rw [Nat.zero_add] at h2; exact h2)⟩
  rw [Zeg ib.ps, e]
  show (as[j]?).map AV.ref = _
  rw [h1]; rfl
include G U
theorem Zdh {v : AV} (ib : IsBook o H b f s p as B) (hk : Kn H v) (q : match Zcp B v with | some (j, x) => ∀ a, as[j]? = some a → IsPact o H j a x → Q (.ref a) H | none => E "NoPact" H) : CallOK c (n + 2) true "Book.need_pact" [.ref b, v] Q E H := by
  refine G.call (F := BK.f_Book_need_pact) U.need_pact rfl ?_
  have hA : c.P.attrs = BK.attrs := by rw [G.hP, U.a.attrs]
  show wpSs _ _ _ _ _ [some (.ref b), some v] _
  refine w_st fun K nx => ?_
  dsimp only [Zax, Zas, Zdq, Za6, x_ao, Zat, Za5, Zak, Zdt, Zae, List.getElem?_cons_succ, v_0, Za9, Zai, Bool.not_eq_eq_eq_not, Bool.not_true, Bool.not_false, Zal, Zac, Zaf]
  refine Zf0 G U.a hk ?_
  cases hn : Zbz v with
  | false =>
    have : Zcp B v = none := by cases v <;> first | rfl | (simp only [Zbz] at hn; simp [Zcp, hn])
    rw [this] at q
    exact ⟨rfl, q⟩
  | true =>
    obtain ⟨k, rfl⟩ : ∃ k, v = .str k := ⟨_, Zcs hn⟩
    have hpv : Zcp B (.str k) = pAt B.pacts k := if_pos hn
    rw [hpv] at q
    (dsimp only [Zai]; refine Eq.mpr (if_pos (by decide)) ?_)
    refine Zco hA ib rfl (Zgu ib ?_)
    cases e : pAt B.pacts k with
    | none =>
      rw [e] at q
      exact ⟨rfl, q⟩
    | some x =>
      rw [e] at q
      refine nx _ _ ?_
      refine w_st fun K nx => ?_
      dsimp only [Za8, Zau]
      refine Zco hA ib rfl ?_
      exact Zfa ib (j := x.1) (x := x.2) e q
end
end Mine
end
section
open PySem PySem.W PyProof.Rows PySem.Spec PySem.SeqAt PySem.Calls
namespace Mine
noncomputable def insD (x : Pc) : List (Str × AV) := x.inside.map fun k => (k, .bool true)
section
variable {o : Addr → Option Role} {H : Zaa}
theorem Zds : ∀ {ts : List Addr} {l : List (Str × Int)} {m : Nat} {t : Addr}, pairsAV o H ts l → ts[m]? = some t → ∃ e, l[m]? = some e ∧ o t = some .data ∧ H t = some (.tuple [.str e.1, .int e.2])
  | t :: _, e :: _, 0, _, h, z => by cases z; exact ⟨e, rfl, h.1, h.2.1⟩
  | _ :: ts, _ :: l, m + 1, _, h, z => Zds (m := m) h.2.2 z
  | [], [], _, _, _, z => by cases z
  | [], _ :: _, _, _, h, _ => h.elim
  | _ :: _, [], _, _, h, _ => h.elim
theorem Zc5 : ∀ {ts : List Addr} {l : List (Str × Int)}, pairsAV o H ts l → ts.length = l.length
  | [], [], _ => rfl
  | _ :: _, _ :: _, h => congrArg Nat.succ (Zc5 h.2.2)
  | [], _ :: _, h => h.elim
  | _ :: _, [], h => h.elim
theorem Zey {Q : AV → Zaa → Prop} {a : Addr} {xs : List AV} {i : Int} {v : AV} (h : H a = some (.tuple xs)) (h0 : 0 ≤ i) (hk : xs[i.toNat]? = some v) (hl : xs.length ≤ 100000) (q : Q v H) : wsub (.ref a) (.int i) Q H := by
  have hlt : i.toNat < xs.length := (List.getElem?_eq_some_iff.mp hk).1
  (dsimp only [Zg2]; rw [h])
  exact ⟨i.toNat, v, by simp only [Zgk, h0, if_true]; rw [if_pos (by lia)], by lia, by lia, hk, q⟩
theorem Zit {Q : AV → Zaa → Prop} {t : Addr} {k : Str} {i : Int} (h : H t = some (.tuple [.str k, .int i])) (q : Q (.str k) H) : wsub (.ref t) (.int 0) Q H := Zey h (by decide) rfl (by simp) q
theorem Zq7 {Q : AV → Zaa → Prop} {t : Addr} {k : Str} {i : Int} (h : H t = some (.tuple [.str k, .int i])) (q : Q (.int i) H) : wsub (.ref t) (.int 1) Q H := Zey h (by decide) rfl (by simp) q
end
section
variable {c : Cx} {P : Pg} (G : Gd c P) (U : HasP P) {n : Nat} {md : Bool} {Q : AV → Zaa → Prop} {E : String → Zaa → Prop} {H : Zaa} {o : Addr → Option Role} {b f s p a : Addr} {as : List Addr} {B : Bk} {j : Nat} {x : Pc}
section
variable {g : Gx} {V : VV} {i : Nat} (hP : g.c.P.attrs = BK.attrs) (ip : IsPact o H j a x) (hV : V[i]? = some (some (.ref a)))
include hP ip hV
theorem Zff (q : Q (.str x.state.str) H) : wpX g (.attr (.var i) "state") V Q E H := by
  obtain ⟨pa, ga, ne, ins, ep, h, _⟩ := ip.at_
  simp only [Za4, Zae, hV, h]; exact ⟨by rw [hP]; rfl, q⟩
theorem Ziu (q : Q (.str x.name) H) : wpX g (.attr (.var i) "name") V Q E H := by
  obtain ⟨pa, ga, ne, ins, ep, h, _⟩ := ip.at_
  simp only [Za4, Zae, hV, h]; exact ⟨by rw [hP]; rfl, q⟩
theorem Ztl (q : Q (.int x.last) H) : wpX g (.attr (.var i) "last") V Q E H := by
  obtain ⟨pa, ga, ne, ins, ep, h, _⟩ := ip.at_
  simp only [Za4, Zae, hV, h]; exact ⟨by rw [hP]; rfl, q⟩
theorem Zfg (q : ∀ z, PairsAt o H z x.parts → Q (.ref z) H) : wpX g (.attr (.var i) "parts") V Q E H := by
  obtain ⟨pa, ga, ne, ins, ep, h, h1, _⟩ := ip.at_
  simp only [Za4, Zae, hV, h]; exact ⟨by rw [hP]; rfl, q pa h1⟩
theorem Zq8 (q : ∀ z, PairsAt o H z x.gains → Q (.ref z) H) : wpX g (.attr (.var i) "gains") V Q E H := by
  obtain ⟨pa, ga, ne, ins, ep, h, h1, h2, _⟩ := ip.at_
  simp only [Za4, Zae, hV, h]; exact ⟨by rw [hP]; rfl, q ga h2⟩
theorem Zly (q : ∀ z, o z = some .data → H z = some (.list (txs x.needs)) → Q (.ref z) H) : wpX g (.attr (.var i) "needs") V Q E H := by
  obtain ⟨pa, ga, ne, ins, ep, h, h1, h2, h3, h4, _⟩ := ip.at_
  simp only [Za4, Zae, hV, h]; exact ⟨by rw [hP]; rfl, q ne h3 h4⟩
theorem Zhc (q : ∀ z ep, o z = some (.inside j) → H z = some (.dict ep (insD x)) → (∀ ep' l, IsPact o (up H z (.dict ep' (l.map fun k => (k, .bool true)))) j a { x with inside := l }) → Q (.ref z) H) : wpX g (.attr (.var i) "inside") V Q E H := by
  obtain ⟨h0, pa, ga, ne, ins, ep, h, h1, h2, h3, h4, h5, h6⟩ := ip
  simp only [Za4, Zae, hV, h]; refine ⟨by rw [hP]; rfl, q ins ep h5 h6 fun ep' l => ?_⟩
  have kb : ∀ y, KB (fun r => r = .data) o o H (up H ins y) := fun y => Ziy fun r hr z => by rw [h5] at hr; cases hr; cases z
  exact ⟨h0, pa, ga, ne, ins, ep', by rw [Zab (Zby h0 h5 (by intro z; cases z))]; exact h, h1.congr (kb _) rfl, h2.congr (kb _) rfl, h3, by rw [Zab (Zby h3 h5 (by intro z; cases z))]; exact h4, h5, Zad⟩
theorem Zof {m : String} {xs : List X} (hM : g.c.P.meths = BK.meths) (hm : BK.meths.contains ("Pact", m) = true) (hn : ["name", "parts", "gains", "needs", "last", "state", "inside"].contains m = false)
    (q : wpXs g xs V (fun vs H => CallOK g.c g.n g.md ("Pact." ++ m) (.ref a :: vs) Q E H) E H) : wpX g (.meth (.var i) m xs) V Q E H := by
  obtain ⟨pa, ga, ne, ins, ep, h, _⟩ := ip.at_
  simp only [Zbc, Zae, hV, h]
  refine ⟨by rw [hM]; exact hm, ?_, q⟩
  simp only [List.contains_cons, List.contains_nil, Bool.or_false, Bool.or_eq_false_iff, beq_eq_false_iff_ne] at hn
  obtain ⟨n1, n2, n3, n4, n5, n6, n7⟩ := hn
  simp [Zd0, n1.symm, n2.symm, n3.symm, n4.symm, n5.symm, n6.symm, n7.symm]
end
include G U
theorem Zge {v : AV} (ib : IsBook o H b f s p as B) (hk : Kn H v) (q : match Zcp B v with | some (j, x) => (if x.state = .opn then ∀ a, as[j]? = some a → IsPact o H j a x → Q (.ref a) H else E "NotOpen" H) | none => E "NoPact" H) : CallOK c (n + 3) true "Book.need_open" [.ref b, v] Q E H := by
  refine G.call (F := BK.f_Book_need_open) U.need_open rfl ?_
  have hA : c.P.attrs = BK.attrs := by rw [G.hP, U.a.attrs]
  have hM : c.P.meths = BK.meths := by rw [G.hP, U.a.meths]
  show wpSs _ _ _ _ _ [some (.ref b), some v, none] _
  refine w_st fun K nx => ?_
  dsimp only [Zaj]
  refine Zbk hM (by decide) (by decide) ib rfl ?_
  dsimp [v_0, Zag, Zae, Zaw, Zbm, Za9, x_ao, Zak, Za3, Zau, Zav, Za1, Zal, Zar, x_bm, Zbl, Zam, Zbg, Zap, Zaf, Zac, Za5, Zat, Zb7, Zbs, Zbp, Zbt, tv, wtg, Zb8, Zdd, Zet, Zcj, Zbu, Zdb, Zdk, c_lt, c_le, c_gt, c_ge, c_eq, c_ne, Zci, Zdp, c_in, Zdt, Zai, Ze9, Zde]
  refine Zdh G U ib hk ?_
  cases e : Zcp B v with
  | none => rw [e] at q; exact q
  | some z =>
    obtain ⟨j, x⟩ := z
    rw [e] at q
    intro a ha ip
    refine ⟨by decide, nx _ _ ?_⟩
    refine w_st fun K nx => ?_
    show wpS _ _ _ _ _ [some (.ref b), some v, some (.ref a)] _
    dsimp only [Zax, Zak]
    refine Zff hA ip rfl ?_
    dsimp only [Zag, Zdp, Zai]
    by_cases h : x.state = .opn
    · have q : ∀ a, as[j]? = some a → IsPact o H j a x → Q (.ref a) H := by simpa only [h, if_true] using q
      refine Eq.mpr (if_neg (by rw [h]; decide)) ?_
      exact nx _ _ (q a ha ip)
    · have q : E "NotOpen" H := by simpa only [h, if_false] using q
      refine Eq.mpr (if_pos (by revert h; cases x.state <;> decide)) ?_
      exact ⟨rfl, q⟩
omit U in
theorem Zmz {k : Str} (hU : P.fns.lookup "Pact.part_of" = some BK.f_Pact_part_of) (hA : c.P.attrs = BK.attrs) (ip : IsPact o H j a x) (q : Q (match lk x.parts k with | some i => .int i | none => .none) H) : CallOK c (n + 1) true "Pact.part_of" [.ref a, .str k] Q E H := by
  refine G.call (F := BK.f_Pact_part_of) hU rfl ?_
  show wpSs _ _ _ _ _ [some (.ref a), some (.str k), none] _
  refine w_st fun K nx => ?_
  dsimp only [Zba]
  refine ⟨rfl, ?_⟩
  refine Zfg hA ip rfl fun z ⟨hz, ts, hts, hl⟩ => ?_
  refine Zcw (xs := ts.map .ref) (by simp only [Zan, hts]) (fun m V' H' => H' = H ∧ (∃ pr, V' = [some (.ref a), some (.str k), pr]) ∧ lk (x.parts.take m) k = none) ⟨rfl, ⟨_, rfl⟩, rfl⟩ ?_
  rintro I hI m V' H' ⟨rfl, ⟨pr, rfl⟩, hm⟩
  refine ⟨rfl, fun hlen => ?_, fun y hy => ?_⟩
  · rw [hlen, List.length_map, Zc5 hl, List.take_length] at hm
    rw [hm] at q
    exact nx _ _ q
  · rw [List.getElem?_map, Option.map_eq_some_iff] at hy
    obtain ⟨t, ht, rfl⟩ := hy
    obtain ⟨e, he, _, htt⟩ := Zds hl ht
    refine ⟨show 2 < 3 by decide, ?_⟩
    refine w_st fun K nx => ?_
    show wpS _ _ _ _ _ [some (.ref a), some (.str k), some (.ref t)] _
    dsimp [v_0, Zag, Zae, Zaw, Zbm, Za9, x_ao, Zak, Za3, Zau, Zav, Za1, Zal, Zar, x_bm, Zbl, Zam, Zbg, Zap, Zaf, Zac, Za5, Zat, Zb7, Zbs, Zbp, Zbt, tv, wtg, Zb8, Zdd, Zet, Zcj, Zbu, Zdb, Zdk, c_lt, c_le, c_gt, c_ge, c_eq, c_ne, Zci, Zdp, c_in, Zdt, Zai, Ze9, Zde, Zas, Zdq, Zax, Za8, Zaj, Zao, Za6]
    refine Zit htt ?_
    dsimp only [Zci, Zai]
    have hsplit : x.parts.take (m + 1) = x.parts.take m ++ [e] := by rw [List.take_add_one, he]; rfl
    by_cases h : e.1 = k
    · refine Eq.mpr (if_pos (by rw [h]; exact beq_self_eq_true k)) ?_
      refine Zq7 htt ?_
      have : lk x.parts k = some e.2 := by
        have hlk : lk (x.parts.take (m + 1)) k = some e.2 := by
          rw [hsplit]; unfold lk at hm ⊢
          rw [List.find?_append, Option.map_eq_none_iff.mp hm]; simp [h]
        unfold lk at hlk ⊢
        obtain ⟨w, hw, hw2⟩ := Option.map_eq_some_iff.mp hlk
        rw [← List.take_append_drop (m + 1) x.parts, List.find?_append, hw]; exact congrArg some hw2
      rw [this] at q
      exact q
    · refine Eq.mpr (if_neg (by simpa using h)) ?_
      refine nx _ _ (hI _ _ _ ⟨rfl, ⟨_, rfl⟩, ?_⟩)
      rw [hsplit]; unfold lk at hm ⊢
      rw [List.find?_append, Option.map_eq_none_iff.mp hm]; simp [h]
end
end Mine
end
section
open PySem PySem.W PyProof.Rows PySem.Spec PySem.SeqAt PySem.Calls
namespace Mine
noncomputable def Zpn (B : Bk) (k : Str) (i : Int) : Bk := { B with aside := pt B.aside k ((lk B.aside k).getD 0 - i), free := pt B.free k ((lk B.free k).getD 0 + i) }
noncomputable def Zfq (B : Bk) (v w : AV) : Except String Bk :=
  if Zbn B v then
    match Zcp B w with
    | none => .error "NoPact"
    | some (j, x) => if x.state = .opn then
        match lk x.parts (Zaz v) with
        | none => .error "NoPart"
        | some i => if Zaz v ∈ x.inside then .error "Already" else if Zda B v < i then .error "TooLittle" else
            .ok { B with pacts := B.pacts.set j { x with inside := x.inside ++ [Zaz v] }, free := pt B.free (Zaz v) (Zda B v - i), aside := pt B.aside (Zaz v) (Zd2 B v + i) }
      else .error "NotOpen"
  else .error "NoPurse"
structure BkOK (B : Bk) : Prop where
  sz : B.Sz
  both : ∀ k, hs B.free k = true → hs B.aside k = true
  len : B.pacts.length ≤ 100
  part : ∀ (j : Nat) (x : Pc), B.pacts[j]? = some x → ∀ k ∈ x.inside, (lk x.parts k).isSome = true
  inl : ∀ (j : Nat) (x : Pc), B.pacts[j]? = some x → x.inside.length ≤ 100 ∧ x.parts.length ≤ 100 ∧ x.gains.length ≤ 100 ∧ x.needs.length ≤ 100
  purse : ∀ (j : Nat) (x : Pc), B.pacts[j]? = some x → ∀ e : Str × Int, e ∈ x.parts ∨ e ∈ x.gains → hs B.free e.1 = true
theorem Zfe {B : Bk} {w : AV} {j : Nat} {x : Pc} (h : Zcp B w = some (j, x)) : B.pacts[j]? = some x := by
  unfold Zcp at h
  split at h
  · split at h
    · exact (Zfw h).1
    · cases h
  · cases h
theorem Zgt {l : List Str} {k : Str} : (Zb0 (l.map fun k => (k, AV.bool true)) k).isSome = decide (k ∈ l) := by
  unfold Zb0
  induction l with
  | nil => rfl
  | cons y r ih =>
    rw [List.map_cons, List.find?_cons]
    by_cases e : y = k
    · rw [show decide ((y, AV.bool true).1 = k) = true from decide_eq_true e]; simp [e]
    · rw [show decide ((y, AV.bool true).1 = k) = false from decide_eq_false e]
      refine ih.trans ?_
      simp [show k ≠ y from fun z => e z.symm]
theorem Zkv {l : List Str} {k : Str} (h : k ∉ l) : putS (l.map fun k => (k, AV.bool true)) k (.bool true) = (l ++ [k]).map fun k => (k, AV.bool true) := by
  unfold putS
  rw [Zgt, decide_eq_false h]
  simp
section
variable {c : Cx} {P : Pg} (G : Gd c P) (U : HasP P) {n : Nat} {md : Bool} {Q : AV → Zaa → Prop} {E : String → Zaa → Prop} {H : Zaa} {o : Addr → Option Role} {b f s p a : Addr} {as : List Addr} {B : Bk} {j : Nat} {x : Pc}
section
variable {g : Gx} {V : VV} {QN : VV → Zaa → Prop} {i m : Nat} {k : Str} (hP : g.c.P.attrs = BK.attrs) (ib : IsBook o H b f s p as B) (hj : B.pacts[j]? = some x) (ha : as[j]? = some a) (ip : IsPact o H j a x) (hV : V[i]? = some (some (.ref a)))
include hP ib hj ha ip hV
theorem Znz (hm : V[m]? = some (some (.str k))) (hk : k ∉ x.inside) (hl : x.inside.length ≤ 100) (q : ∀ H', IsBook o H' b f s p as { B with pacts := B.pacts.set j { x with inside := x.inside ++ [k] } } → Fr1 o H o H' → QN V H') : wpT g (.sub (.attr (.var i) "inside") (.var m)) (.bool true) V QN E H := by
  dsimp only [tsub]
  refine Zhc hP ip hV fun z ep hz hd up' => ?_
  simp only [Zae, hm, hd]
  refine ⟨by rw [insD, List.length_map]; exact Nat.le_trans hl (by decide), fun ep' => ?_⟩
  rw [insD, Zkv hk]
  refine q _ (ib.setPact hj ha (Ziy fun r hr => by rw [hz] at hr; cases hr; exact fun w => w.2 rfl) (up' ep' _) rfl) (Zi7 (by rw [hz]; simp))
theorem Zpg {no : Bool} {e : X} (he : ∀ Q', Q' (.str k) H → wpX g e V Q' E H) (q : Q (.bool (decide (k ∈ x.inside) != no)) H) : wpX g (.cmp (if no then .NotIn else .In) e (.attr (.var i) "inside")) V Q E H := by
  dsimp only [Zak]
  refine he _ (Zhc hP ip hV fun z ep hz hd up' => ?_)
  have : win no (.str k) (.ref z) Q H := by
    (dsimp only [Zd4]; rw [hd])
    show Q (.bool (nt no (Zb0 (insD x) k).isSome)) H
    rw [insD, Zgt, ← Ziv]; exact q
  cases no <;> exact this
end
include G U
theorem Zqb {v w : AV} (hU : P.fns.lookup "Book.set_aside" = some BK.f_Book_set_aside) (hU2 : P.fns.lookup "Pact.part_of" = some BK.f_Pact_part_of) (ib : IsBook o H b f s p as B) (hk : Kn H v) (hw : Kn H w) (ok : BkOK B)
    (q : Ends (Zfq B v w) (fun B' => ∀ H', IsBook o H' b f s p as B' → Fr1 o H o H' → Q .none H') (fun cl => E cl H)) : CallOK c (n + 4) true "Book.set_aside" [.ref b, v, w] Q E H := by
  refine G.call (F := BK.f_Book_set_aside) hU rfl ?_
  have hA : c.P.attrs = BK.attrs := by rw [G.hP, U.a.attrs]
  have hM : c.P.meths = BK.meths := by rw [G.hP, U.a.meths]
  show wpSs _ _ _ _ _ [some (.ref b), some v, some w, none, none] _
  unfold Zfq at q
  refine w_st fun K nx => ?_
  dsimp only [Zao]
  refine Zbk hM (by decide) (by decide) ib rfl ?_
  dsimp only [String.reduceAppend, Zac, Zaf, Zae, List.getElem?_cons_succ, v_0]
  refine Zck G U.a ib hk ?_
  cases hp : Zbn B v with
  | false => rw [hp] at q; exact q
  | true =>
  obtain ⟨k, rfl⟩ : ∃ k, v = .str k := ⟨_, (Zce hp).1⟩
  have hf := Zfu hp
  have hs' := Zgf (ok.both _ (Zce hp).2)
  rw [hp] at q
  refine nx _ _ ?_
  refine w_st fun K nx => ?_
  dsimp only [Zaj]
  refine Zbk hM (by decide) (by decide) ib rfl ?_
  dsimp only [String.reduceAppend, tv, List.length_cons, List.length_nil, Nat.reduceAdd, List.set_cons_succ, List.set_cons_zero, Zac, Zaf, Zae, List.getElem?_cons_succ, v_0]
  refine Zge G U ib hw ?_
  cases e : Zcp B w with
  | none => rw [e] at q; exact q
  | some z =>
  obtain ⟨j, x⟩ := z
  rw [e] at q
  have hj := Zfe e
  show if x.state = .opn then _ else _
  by_cases ho : x.state = .opn
  case neg =>
    refine Eq.mpr (if_neg ho) ?_
    rw [if_pos rfl] at q
    dsimp only at q
    rw [if_neg ho] at q
    exact q
  refine Eq.mpr (if_pos ho) ?_
  rw [if_pos rfl] at q
  dsimp only at q
  rw [if_pos ho] at q
  intro a ha ip
  refine ⟨by decide, nx _ _ ?_⟩
  refine w_st fun K nx => ?_
  show wpS _ _ _ _ _ [some (.ref b), some (.str k), some w, some (.ref a), none] _
  dsimp only [Zaj]
  refine Zof hA ip rfl hM (by decide) (by decide) ?_
  dsimp only [String.reduceAppend, tv, List.length_cons, List.length_nil, Nat.reduceAdd, List.set_cons_succ, List.set_cons_zero, Zac, Zaf, Zae, List.getElem?_cons_succ, v_0]
  refine Zmz G hU2 hA ip ?_
  refine ⟨by decide, nx _ _ ?_⟩
  refine w_st fun K nx => ?_
  cases hl : lk x.parts k with
  | none =>
    have q : E "NoPart" H := by rw [show Zaz (.str k) = k from rfl, hl] at q; exact q
    exact ⟨rfl, q⟩
  | some i =>
  rw [show Zaz (.str k) = k from rfl, hl] at q
  refine nx _ _ ?_
  refine w_st fun K nx => ?_
  show wpS _ _ _ _ _ [some (.ref b), some (.str k), some w, some (.ref a), some (.int i)] _
  dsimp only [Zax]
  refine Zpg (no := false) (k := k) hA ib hj ha ip rfl (fun Q' h => h) ?_
  by_cases hi : k ∈ x.inside
  · rw [decide_eq_true hi]
    have q : E "Already" H := by simpa only [hi, if_true, Ends] using q
    exact ⟨rfl, q⟩
  rw [decide_eq_false hi]
  have q : Ends (if Zda B (.str k) < i then .error "TooLittle" else .ok { B with pacts := B.pacts.set j { x with inside := x.inside ++ [k] }, free := pt B.free k (Zda B (.str k) - i), aside := pt B.aside k (Zd2 B (.str k) + i) }) (fun B' => ∀ H', IsBook o H' b f s p as B' → Fr1 o H o H' → Q .none H') (fun cl => E cl H) := by simpa only [hi, if_false] using q
  refine nx _ _ ?_
  refine w_st fun K nx => ?_
  dsimp only [Zax, Zak, Zau]
  refine Zdc hA ib rfl (Zel ib hf ?_)
  dsimp only [Zae, List.getElem?_cons_succ, v_0, c_lt, Zai, decide_eq_true_eq]
  by_cases hlt : Zda B (.str k) < i
  · rw [decide_eq_true hlt]
    have q : E "TooLittle" H := by simpa only [hlt, if_true, Ends] using q
    exact ⟨rfl, q⟩
  rw [decide_eq_false hlt]
  have q : ∀ H', IsBook o H' b f s p as { B with pacts := B.pacts.set j { x with inside := x.inside ++ [k] }, free := pt B.free k (Zda B (.str k) - i), aside := pt B.aside k (Zd2 B (.str k) + i) } → Fr1 o H o H' → Q .none H' := by simpa only [hlt, if_false, Ends] using q
  refine nx _ _ ?_
  refine w_st fun K nx => ?_
  dsimp only [Zaj, Zag]
  refine Znz (k := k) hA ib hj ha ip rfl rfl hi (ok.inl j x hj).1 fun H1 ib1 f1 => nx _ _ ?_
  refine w_st fun K nx => ?_
  dsimp only [Zaj, Zaw, Zau]
  refine Zdc hA ib1 rfl (Zel (v := Zda B (.str k)) ib1 hf ?_)
  dsimp only [Zae, List.getElem?_cons_succ, v_0, Zdd]
  refine Zkr (k := k) hA ib1 ok.sz.1 rfl rfl fun H2 ib2 f2 => nx _ _ ?_
  refine w_st fun K nx => ?_
  dsimp only [Zaj, Zaw, Zau]
  refine Zd1 hA ib2 rfl (Zfb (v := Zd2 B (.str k)) ib2 hs' ?_)
  dsimp only [Zae, List.getElem?_cons_succ, v_0, Zb8]
  refine Zlv (k := k) hA ib2 ok.sz.2 rfl rfl fun H3 ib3 f3 => nx _ _ ?_
  exact q H3 ib3 ((f1.trans f2).trans f3)
end
end Mine
end
section
open PySem PySem.W PyProof.Rows PySem.Spec PySem.SeqAt PySem.Calls
namespace Mine
noncomputable def Zgn (x : Pc) : Bool := x.state == .opn && x.inside.length == x.parts.length
theorem Zkq {x : Sta} : (x.str == Str.ofString "open") = (x == .opn) := by cases x <;> decide
theorem Zuv {x : Sta} : (x.str == Str.ofString "done") = (x == .dn) := by cases x <;> decide
theorem Zny {x : Sta} : (x.str == Str.ofString "fallen") = (x == .fln) := by cases x <;> decide
section
variable {c : Cx} {P : Pg} (G : Gd c P) (U : HasP P) {n : Nat} {md : Bool} {Q : AV → Zaa → Prop} {E : String → Zaa → Prop} {H : Zaa} {o : Addr → Option Role} {b f s p a : Addr} {as : List Addr} {B : Bk} {j : Nat} {x : Pc}
section
variable {g : Gx} {V : VV} {QN : VV → Zaa → Prop} {i m : Nat} {k : Str} (hP : g.c.P.attrs = BK.attrs) (ib : IsBook o H b f s p as B) (hj : B.pacts[j]? = some x) (ha : as[j]? = some a) (ip : IsPact o H j a x) (hV : V[i]? = some (some (.ref a)))
include hP ib hj ha ip hV
end
include G U
set_option tactic.hygienic true in
omit U in
theorem Zid (hU : P.fns.lookup "Pact.is_full" = some BK.f_Pact_is_full) (hA : c.P.attrs = BK.attrs) (ip : IsPact o H j a x) (h1 : x.inside.length ≤ 100) (h2 : x.parts.length ≤ 100) (q : Q (.bool (Zgn x)) H) : CallOK c (n + 1) md "Pact.is_full" [.ref a] Q E H := by
  refine G.call (F := BK.f_Pact_is_full) hU rfl ?_
  show wpSs _ _ _ _ _ [some (.ref a)] _
  refine w_st fun K nx => ?_
  dsimp only [Za8, x_ao, Zat, Zak]
  refine Zff hA ip rfl ?_
  (dsimp only [Zag, Zci, Zai]; rw [Zkq])
  unfold Zgn at q
  cases hs : x.state == Sta.opn with
  | false => rw [hs] at q; exact q
  | true =>
    rw [hs] at q
    refine Eq.mpr (if_pos rfl) (Eq.mpr (Za5) (Eq.mpr (Zak) (Eq.mpr (Zar) (Eq.mpr (Zac) ?_))))
    refine Zhc hA ip rfl fun z ep hz hd _ => ?_
    rw [Zaf, Zgb, hd]
    refine ⟨by rw [insD, List.length_map]; exact Nat.lt_of_le_of_lt (by assumption) (by decide), ?_⟩
    rw [Zar, Zac]
    refine Zfg hA ip rfl fun z' ⟨_, ts, hts, hl⟩ => ?_
    (dsimp only [Zaf, Zgb]; rw [hts])
    have e1 := Zc5 hl
    refine ⟨by rw [List.length_map]; lia, ?_⟩
    (dsimp only [c_eq]; rw [insD, List.length_map, List.length_map, e1])
    have : (((x.inside.length : Nat) : Int) == ((x.parts.length : Nat) : Int)) = (x.inside.length == x.parts.length) := by
      by_cases h : x.inside.length = x.parts.length
      · rw [h]; simp
      · rw [beq_eq_false_iff_ne.mpr h]; exact beq_eq_false_iff_ne.mpr fun z => h (Int.ofNat.inj z)
    rw [this]; exact q
theorem Zjc {v : AV} (hU : P.fns.lookup "Book.state_of" = some BK.f_Book_state_of) (ib : IsBook o H b f s p as B) (hk : Kn H v) (q : match Zcp B v with | some (j, x) => Q (.str x.state.str) H | none => E "NoPact" H) : CallOK c (n + 3) true "Book.state_of" [.ref b, v] Q E H := by
  refine G.call (F := BK.f_Book_state_of) hU rfl ?_
  have hA : c.P.attrs = BK.attrs := by rw [G.hP, U.a.attrs]
  have hM : c.P.meths = BK.meths := by rw [G.hP, U.a.meths]
  show wpSs _ _ _ _ _ [some (.ref b), some v] _
  refine w_st fun K nx => ?_
  dsimp only [Za8, Za4]
  refine Zbk hM (by decide) (by decide) ib rfl ?_
  dsimp only [String.reduceAppend, Zac, Zaf, Zae, List.getElem?_cons_succ, v_0]
  refine Zdh G U ib hk ?_
  cases e : Zcp B v with
  | none => rw [e] at q; exact q
  | some z =>
    obtain ⟨j, x⟩ := z
    rw [e] at q
    intro a ha ip
    obtain ⟨pa, ga, ne, ins, ep, h, _⟩ := ip.at_
    show match H a with | some (.inst _ _) => _ | some (.book _) => _ | _ => False
    rw [h]; exact ⟨by rw [hA]; rfl, q⟩
theorem Zr1 {v : AV} (hU : P.fns.lookup "Book.full" = some BK.f_Book_full) (hU2 : P.fns.lookup "Pact.is_full" = some BK.f_Pact_is_full) (ib : IsBook o H b f s p as B) (ok : BkOK B) (hk : Kn H v) (q : match Zcp B v with | some (j, x) => Q (.bool (Zgn x)) H | none => E "NoPact" H) : CallOK c (n + 3) true "Book.full" [.ref b, v] Q E H := by
  refine G.call (F := BK.f_Book_full) hU rfl ?_
  have hA : c.P.attrs = BK.attrs := by rw [G.hP, U.a.attrs]
  have hM : c.P.meths = BK.meths := by rw [G.hP, U.a.meths]
  show wpSs _ _ _ _ _ [some (.ref b), some v] _
  refine w_st fun K nx => ?_
  refine Eq.mpr (Za8) (Eq.mpr (Zbc) ?_)
  refine Zbk hM (by decide) (by decide) ib rfl ?_
  dsimp only [String.reduceAppend, Zaf, Zac, Zae, List.getElem?_cons_succ, v_0]
  refine Zdh G U ib hk ?_
  cases e : Zcp B v with
  | none => rw [e] at q; exact q
  | some z =>
    obtain ⟨j, x⟩ := z
    rw [e] at q
    intro a ha ip
    obtain ⟨pa, ga, ne, ins, ep, h, _⟩ := id ip.at_
    have hl := ok.inl j x (Zfe e)
    show match H a with | some (.inst _ _) => _ | some (.book _) => _ | _ => False
    rw [h]; exact ⟨by rw [hM]; rfl, rfl, Zid G hU2 hA ip hl.1 hl.2.1 q⟩
end
end Mine
end
section
open PySem PySem.W PyProof.Rows PySem.Spec PySem.SeqAt PySem.Calls
namespace Mine
noncomputable def Zdo (ins : List Str) : List (Str × Int) → Bk → Bk
  | [], B => B
  | e :: l, B => Zdo ins l (if e.1 ∈ ins then Zpn B e.1 e.2 else B)
noncomputable def Zf3 (B : Bk) (j : Nat) (x : Pc) : Bk := { Zdo x.inside x.parts B with pacts := B.pacts.set j { x with inside := [], state := .fln } }
theorem Zej {ins : List Str} {e : Str × Int} : ∀ {l : List (Str × Int)} {B : Bk}, Zdo ins (l ++ [e]) B = (if e.1 ∈ ins then Zpn (Zdo ins l B) e.1 e.2 else Zdo ins l B)
  | [], B => rfl
  | e' :: l, B => Zej (l := l)
theorem Zed {l : List (Str × Int)} {k : Str} {x : Int} (h : hs l k = true) : (pt l k x).length = l.length ∧ ∀ s, hs (pt l k x) s = hs l s := by
  refine ⟨?_, fun s => ?_⟩
  · unfold pt; rw [if_pos (show (lk l k).isSome = true from h), List.length_map]
  · rw [Zxv]
    by_cases e : s = k
    · rw [e, h]; simp
    · simp [e]
structure SameB (B B' : Bk) : Prop where
  day : B'.day = B.day
  fl : B'.free.length = B.free.length
  al : B'.aside.length = B.aside.length
  fh : ∀ s, hs B'.free s = hs B.free s
  ah : ∀ s, hs B'.aside s = hs B.aside s
theorem SameB.refl {B : Bk} : SameB B B := ⟨rfl, rfl, rfl, fun _ => rfl, fun _ => rfl⟩
theorem SameB.trans {B B' B'' : Bk} (x : SameB B B') (y : SameB B' B'') : SameB B B'' := ⟨y.day.trans x.day, y.fl.trans x.fl, y.al.trans x.al, fun s => (y.fh s).trans (x.fh s), fun s => (y.ah s).trans (x.ah s)⟩
theorem SameB.give {B : Bk} {k : Str} {i : Int} (h : hs B.free k = true) (h' : hs B.aside k = true) : SameB B (Zpn B k i) := ⟨rfl, (Zed h).1, (Zed h').1, (Zed h).2, (Zed h').2⟩
theorem SameB.all {ins : List Str} : ∀ {l : List (Str × Int)} {B : Bk}, (∀ e ∈ l, hs B.free e.1 = true ∧ hs B.aside e.1 = true) → SameB B (Zdo ins l B) ∧ (Zdo ins l B).pacts = B.pacts
  | [], B, _ => ⟨.refl, rfl⟩
  | e :: l, B, h => by
    have h0 := h e List.mem_cons_self
    unfold Zdo
    by_cases hi : e.1 ∈ ins
    · rw [if_pos hi]
      have s1 := SameB.give (i := e.2) h0.1 h0.2
      obtain ⟨s2, p2⟩ := SameB.all (ins := ins) (l := l) (B := Zpn B e.1 e.2) fun e' he => by rw [s1.fh, s1.ah]; exact h e' (List.mem_cons_of_mem _ he)
      exact ⟨s1.trans s2, p2⟩
    · rw [if_neg hi]
      exact SameB.all fun e' he => h e' (List.mem_cons_of_mem _ he)
theorem BkOK.keep {B B' : Bk} (ok : BkOK B) (sm : SameB B B') (hl : B'.pacts.length = B.pacts.length) (hp : ∀ (j : Nat) (y : Pc), B'.pacts[j]? = some y → ∃ x, B.pacts[j]? = some x ∧ y.parts = x.parts ∧ y.gains = x.gains ∧ y.needs = x.needs ∧ ∀ k ∈ y.inside, (lk x.parts k).isSome = true) (hi : ∀ (j : Nat) (y : Pc), B'.pacts[j]? = some y → y.inside.length ≤ 100) : BkOK B' := by
  refine ⟨⟨by rw [sm.fl]; exact ok.sz.1, by rw [sm.al]; exact ok.sz.2⟩, fun k h => ?_, by rw [hl]; exact ok.len, fun j y hy k hk => ?_, fun j y hy => ?_, fun j y hy e he => ?_⟩
  · rw [sm.ah]; rw [sm.fh] at h; exact ok.both k h
  · obtain ⟨x, h1, h2, h3, h4, h5⟩ := hp j y hy
    rw [h2]; exact h5 k hk
  · obtain ⟨x, h1, h2, h3, h4, h5⟩ := hp j y hy
    have := ok.inl j x h1
    exact ⟨hi j y hy, by rw [h2]; exact this.2.1, by rw [h3]; exact this.2.2.1, by rw [h4]; exact this.2.2.2⟩
  · obtain ⟨x, h1, h2, h3, h4, h5⟩ := hp j y hy
    rw [h2, h3] at he
    rw [sm.fh]; exact ok.purse j x h1 e he
set_option tactic.hygienic true in
theorem Ziq {ps : List Pc} {j m : Nat} {x' y : Pc} (h : (ps.set j x')[m]? = some y) : (m = j ∧ y = x' ∧ j < ps.length) ∨ (m ≠ j ∧ ps[m]? = some y) := by
  rw [List.getElem?_set] at h
  by_cases e : j = m
  · rw [if_pos e] at h
    split at h
    · cases h; exact .inl ⟨e.symm, rfl, by assumption⟩
    · cases h
  · rw [if_neg e] at h; exact .inr ⟨fun z => e z.symm, h⟩
theorem BkOK.giveAble {B : Bk} {j : Nat} {x : Pc} (ok : BkOK B) (hj : B.pacts[j]? = some x) : ∀ e ∈ x.parts, hs B.free e.1 = true ∧ hs B.aside e.1 = true := fun e he => have h := ok.purse j x hj e (.inl he); ⟨h, ok.both _ h⟩
theorem BkOK.fell {B : Bk} {j : Nat} {x : Pc} (ok : BkOK B) (hj : B.pacts[j]? = some x) : BkOK (Zf3 B j x) := by
  obtain ⟨sm, hp⟩ := SameB.all (ins := x.inside) (ok.giveAble hj)
  refine ok.keep ⟨sm.day, sm.fl, sm.al, sm.fh, sm.ah⟩ List.length_set (fun m y hy => ?_) fun m y hy => ?_
  · rcases Ziq hy with ⟨rfl, rfl, _⟩ | ⟨_, h⟩
    · exact ⟨x, hj, rfl, rfl, rfl, fun k hk => by cases hk⟩
    · exact ⟨y, h, rfl, rfl, rfl, ok.part m y h⟩
  · rcases Ziq hy with ⟨rfl, rfl, _⟩ | ⟨_, h⟩
    · exact Nat.zero_le _
    · exact (ok.inl m y h).1
section
variable {c : Cx} {P : Pg} (G : Gd c P) (U : HasP P) {n : Nat} {md : Bool} {Q : AV → Zaa → Prop} {E : String → Zaa → Prop} {H : Zaa} {o : Addr → Option Role} {b f s p a : Addr} {as : List Addr} {B : Bk} {j : Nat} {x : Pc}
theorem IsBook.pact (ib : IsBook o H b f s p as B) (hj : B.pacts[j]? = some x) (ha : as[j]? = some a) : IsPact o H j a x := by
  obtain ⟨a', h1, h2⟩ := Zcr ib.ps hj
  rw [ha] at h1; cases h1
  rw [Nat.zero_add] at h2; exact h2
noncomputable def KD (o : Addr → Option Role) (H H' : Zaa) : Prop := ∀ y, o y = some .data → H' y = H y
theorem KD.up {y : Addr} {z : AObj} {r : Role} (h : o y = some r) (hr : r ≠ .data) : KD o H (up H y z) := fun w hw => Zab fun e => by subst e; rw [h] at hw; cases hw; exact hr rfl
theorem KD.trans {H' H'' : Zaa} (h : KD o H H') (h' : KD o H' H'') : KD o H H'' := fun y hy => (h' y hy).trans (h y hy)
include G U
omit U in
theorem Zi0 {k : Str} {i : Int} (hU : P.fns.lookup "Book.given_back" = some BK.f_Book_given_back) (hA : c.P.attrs = BK.attrs) (ib : IsBook o H b f s p as B) (hz : B.Sz) (hf : hs B.free k = true) (hs' : hs B.aside k = true) (q : ∀ H', IsBook o H' b f s p as (Zpn B k i) → Fr1 o H o H' → KD o H H' → Q .none H') : CallOK c (n + 1) true "Book.given_back" [.ref b, .str k, .int i] Q E H := by
  refine G.call (F := BK.f_Book_given_back) hU rfl ?_
  show wpSs _ _ _ _ _ [some (.ref b), some (.str k), some (.int i)] _
  obtain ⟨ef, hf0⟩ := ib.hf
  obtain ⟨es, hs0⟩ := ib.hs
  have hfs : f ≠ s := Zby ib.of ib.os (by intro h; cases h)
  refine w_st fun K nx => ?_
  dsimp only [Zaj, Zaw, Zau]
  refine Zd1 hA ib rfl (Zfb ib (Zgf hs') ?_)
  dsimp only [Zae, List.getElem?_cons_succ, v_0, Zdd]
  dsimp only [tsub]
  refine Zd1 hA ib rfl ?_
  dsimp only [Nat.reducePow, Zae, List.getElem?_cons_succ, v_0]
  rw [hs0]
  refine ⟨by rw [Zhp]; exact hz.2, fun e1 => nx _ _ ?_⟩
  rw [Zg5]
  have ib1 := ib.setAside e1 (pt B.aside k ((lk B.aside k).getD 0 - i))
  refine w_st fun K nx => ?_
  dsimp only [Zaj, Zaw, Zau]
  refine Zdc hA ib1 rfl (Zel (v := (lk B.free k).getD 0) ib1 (Zgf hf) ?_)
  dsimp only [Zae, List.getElem?_cons_succ, v_0, Zb8]
  dsimp only [tsub]
  refine Zdc hA ib1 rfl ?_
  dsimp only [Nat.reducePow, Zae, List.getElem?_cons_succ, v_0]
  rw [Zab hfs, hf0]
  refine ⟨by rw [Zhp]; exact hz.1, fun e2 => nx _ _ ?_⟩
  rw [Zg5]
  exact q _ (ib1.setFree e2 _) ((Zi7 (by rw [ib.os]; simp)).trans (Zi7 (by rw [ib.of]; simp))) ((KD.up ib.os (by intro h; cases h)).trans (KD.up ib.of (by intro h; cases h)))
theorem Zlh (hU : P.fns.lookup "Book.fell" = some BK.f_Book_fell) (hU2 : P.fns.lookup "Book.given_back" = some BK.f_Book_given_back) (ib : IsBook o H b f s p as B) (ok : BkOK B) (hj : B.pacts[j]? = some x) (ha : as[j]? = some a)
    (q : ∀ o' H', IsBook o' H' b f s p as (Zf3 B j x) → Fr1 o H o' H' → Q (.str x.name) H') : CallOK c (n + 2) true "Book.fell" [.ref b, .ref a] Q E H := by
  refine G.call (F := BK.f_Book_fell) hU rfl ?_
  have hA : c.P.attrs = BK.attrs := by rw [G.hP, U.a.attrs]
  have hM : c.P.meths = BK.meths := by rw [G.hP, U.a.meths]
  have hC : ∀ n, BK.attrs.contains ("Pact", n) = true → c.P.attrs.contains ("Pact", n) = true := fun n h => by rw [hA]; exact h
  show wpSs _ _ _ _ _ [some (.ref b), some (.ref a), none] _
  have able := ok.giveAble hj
  refine w_st fun K nx => ?_
  dsimp only [Zba]
  refine ⟨rfl, ?_⟩
  refine Zfg hA (ib.pact hj ha) rfl fun z ⟨hz, ts, hts, hl⟩ => ?_
  refine Zcw (xs := ts.map .ref) (by simp only [Zan, hts]) (fun m V' H' => (∃ pr, V' = [some (.ref b), some (.ref a), pr]) ∧ IsBook o H' b f s p as (Zdo x.inside (x.parts.take m) B) ∧ Fr1 o H o H' ∧ KD o H H') ⟨⟨_, rfl⟩, by rw [List.take_zero]; exact ib, .refl, fun _ _ => rfl⟩ ?_
  rintro I hI m V' H' ⟨⟨pr, rfl⟩, ib', fr', kd'⟩
  obtain ⟨sm, hp⟩ := SameB.all (ins := x.inside) (l := x.parts.take m) (B := B) fun e he => able e (List.mem_of_mem_take he)
  have hj' : (Zdo x.inside (x.parts.take m) B).pacts[j]? = some x := by rw [hp]; exact hj
  refine ⟨kd' z hz, fun hlen => ?_, fun y hy => ?_⟩
  · rw [hlen, List.length_map, Zc5 hl, List.take_length] at ib' sm hp hj'
    refine nx _ _ ?_
    obtain ⟨h0, pa, ga, ne, ins, ep, h, h1, h2, h3, h4, h5, h6⟩ := ib'.pact hj' ha
    refine w_st fun K nx => ?_
    dsimp only [Zaj, Zap]
    intro w hw
    have haw : a ≠ w := fun e => by rw [e, hw] at h; cases h
    refine st_a rfl (hC _ rfl) (by rw [Zab haw]; exact h) (by exact (show 7 ≤ 100 by decide)) (nx _ _ ?_)
    refine w_st fun K nx => ?_
    dsimp only [Zaj, Zag]
    refine st_a rfl (hC _ rfl) Zad (by exact (show 7 ≤ 100 by decide)) (nx _ _ ?_)
    have kb0 : KB (fun _ => True) o (fun y => if y = w then some (.inside j) else o y) H' (Mine.up H' w (.dict 0 [])) := fun y r v _ hr hv _ => by
      have : y ≠ w := fun e => by rw [e, hw] at hv; cases hv
      exact ⟨(if_neg this).trans hr, by rw [Zab this]; exact hv⟩
    have ib1 := ib'.congr kb0
    generalize ho : (fun y => if y = w then some (Role.inside j) else o y) = o' at kb0 ib1
    have hoa : o' a = some (.pact j) := by rw [← ho]; exact (if_neg haw).trans h0
    have how : o' w = some (.inside j) := by rw [← ho]; exact if_pos rfl
    have kb1 : ∀ {X : Zaa} {y : AObj}, KB (fun r => r ≠ .pact j ∧ r ≠ .inside j) o' o' X (Mine.up X a y) := Ziy fun r hr => by rw [hoa] at hr; cases hr; exact fun z => z.1 rfl
    have kbd : ∀ {X : Zaa} {y : AObj}, KB (fun r => r = .data) o' o' X (Mine.up X a y) := Ziy fun r hr => by rw [hoa] at hr; cases hr; exact fun z => by cases z
    have kb0' : KB (fun r => r = .data) o o' H' (Mine.up H' w (.dict 0 [])) := fun y r v _ hr hv hb => kb0 y r v trivial hr hv hb
    have ip : IsPact o' (Mine.up (Mine.up (Mine.up H' w (.dict 0 [])) a (.inst "Pact" (putA [("name", .str x.name), ("parts", .ref pa), ("gains", .ref ga), ("needs", .ref ne), ("last", .int x.last), ("state", .str x.state.str), ("inside", .ref ins)] "inside" (.ref w)))) a (.inst "Pact" (putA (putA [("name", .str x.name), ("parts", .ref pa), ("gains", .ref ga), ("needs", .ref ne), ("last", .int x.last), ("state", .str x.state.str), ("inside", .ref ins)] "inside" (.ref w)) "state" (.str (Str.ofString "fallen"))))) j a { x with inside := [], state := .fln } := by
      refine ⟨hoa, pa, ga, ne, w, 0, Zad, ((h1.congr kb0' rfl).congr kbd rfl).congr kbd rfl, ((h2.congr kb0' rfl).congr kbd rfl).congr kbd rfl, ?_, ?_, how, ?_⟩
      · exact (kb0' ne _ _ rfl h3 h4 rfl).1
      · have := kb0' ne _ _ rfl h3 h4 rfl
        have hna : ne ≠ a := Zby this.1 hoa (by intro z; cases z)
        rw [Zab hna, Zab hna]; exact this.2
      · rw [Zab haw.symm, Zab haw.symm, Zad]; rfl
    refine w_st fun K nx => ?_
    dsimp only [Za8]
    refine Ziu hA ip rfl ?_
    have ib2 := ib1.setPact hj' ha (fun y r v hr ho hv hb => kb1 y r v hr ho (kb1 y r v hr ho hv hb).2 hb) ip rfl
    rw [hp] at ib2
    refine q o' _ ib2 (fr'.trans ⟨fun y v hy ho' => ?_, fun y h => Zc3 (Zc3 (Zc3 h))⟩)
    have hyw : y ≠ w := fun e => by rw [e, hw] at hy; cases hy
    have hya : y ≠ a := fun e => by rw [e, h0] at ho'; cases ho'
    exact ⟨by rw [Zab hya, Zab hya, Zab hyw]; exact hy, by rw [← ho]; exact (if_neg hyw).trans ho'⟩
  · rw [List.getElem?_map, Option.map_eq_some_iff] at hy
    obtain ⟨t, ht, rfl⟩ := hy
    obtain ⟨e, he, htd, htt⟩ := Zds hl ht
    have htt' : H' t = some (.tuple [.str e.1, .int e.2]) := by rw [kd' t htd]; exact htt
    refine ⟨show 2 < 3 by decide, ?_⟩
    refine w_st fun K nx => ?_
    show wpS _ _ _ _ _ [some (.ref b), some (.ref a), some (.ref t)] _
    have hsplit : x.parts.take (m + 1) = x.parts.take m ++ [e] := by rw [List.take_add_one, he]; rfl
    dsimp only [Zax]
    refine Zpg (no := false) (k := e.1) hA ib' hj' ha (ib'.pact hj' ha) rfl (fun Q' h => Zit htt' h) ?_
    by_cases hi : e.1 ∈ x.inside
    · rw [decide_eq_true hi]
      show wpSs _ _ _ _ _ [some (.ref b), some (.ref a), some (.ref t)] _
      refine w_st fun K2 nx2 => ?_
      dsimp only [Zao]
      refine Zbk hM (by decide) (by decide) ib' rfl ?_
      refine Eq.mpr (Zac) (Eq.mpr (Zau) ?_)
      refine Zit htt' ?_
      rw [Zac, Zau]
      refine Zq7 htt' ?_
      have hem : e ∈ x.parts := List.mem_of_getElem? he
      refine Zi0 G hU2 hA ib' ⟨by rw [sm.fl]; exact ok.sz.1, by rw [sm.al]; exact ok.sz.2⟩ (by rw [sm.fh]; exact (able e hem).1) (by rw [sm.ah]; exact (able e hem).2) fun H2 ib2 fr2 kd2 => nx2 _ _ (nx _ _ (hI _ _ _ ⟨⟨_, rfl⟩, ?_, fr'.trans fr2, kd'.trans kd2⟩))
      rw [hsplit, Zej, if_pos hi]; exact ib2
    · rw [decide_eq_false hi]
      refine nx _ _ (hI _ _ _ ⟨⟨_, rfl⟩, ?_, fr', kd'⟩)
      rw [hsplit, Zej, if_neg hi]; exact ib'
end
end Mine
end
section
open PySem PySem.W PyProof.Rows PySem.Spec PySem.SeqAt PySem.Calls
namespace Mine
noncomputable def fAt (g : Pc → Bool) : List Pc → Option (Nat × Pc)
  | [] => none
  | q :: r => if g q then some (0, q) else (fAt g r).map fun e => (e.1 + 1, e.2)
theorem Zpq {g : Pc → Bool} : ∀ {ps : List Pc} {m : Nat} {x : Pc}, (∀ i y, i < m → ps[i]? = some y → g y = false) → ps[m]? = some x → g x = true → fAt g ps = some (m, x)
  | q :: r, 0, x, _, h, hg => by cases h; unfold fAt; rw [if_pos hg]
  | q :: r, m + 1, x, hi, h, hg => by
    unfold fAt
    rw [if_neg (by rw [hi 0 q (Nat.succ_pos m) rfl]; decide), Zpq (ps := r) (m := m) (fun i y hm hy => hi (i + 1) y (Nat.succ_lt_succ hm) hy) h hg]; rfl
  | [], _, _, _, h, _ => by cases h
theorem Zmk {g : Pc → Bool} : ∀ {ps : List Pc}, (∀ (i : Nat) y, ps[i]? = some y → g y = false) → fAt g ps = none
  | [], _ => rfl
  | q :: r, h => by
    unfold fAt
    rw [if_neg (by rw [h 0 q rfl]; decide), Zmk (ps := r) fun i y hy => h (i + 1) y hy]; rfl
theorem Zuc {g : Pc → Bool} {ps : List Pc} {m : Nat} {x : Pc} (h : fAt g ps = some (m, x)) : ps[m]? = some x ∧ g x = true := by
  induction ps generalizing m with
  | nil => cases h
  | cons q r ih =>
    unfold fAt at h
    by_cases hg : g q = true
    · rw [if_pos hg] at h; cases h; exact ⟨rfl, hg⟩
    · rw [if_neg hg] at h
      obtain ⟨⟨m', x'⟩, h1, h2⟩ := Option.map_eq_some_iff.mp h
      cases h2
      exact ih h1
noncomputable def Zcn (B : Bk) (k : Str) : Bool := match pAt B.pacts k with
  | some e => e.2.state == .fln
  | none => false
noncomputable def Zlk (B : Bk) (x : Pc) : Bool := x.state == .opn && x.needs.any (Zcn B)
noncomputable def Zd6 (B : Bk) : Option (Nat × Pc) := fAt (Zlk B) B.pacts
noncomputable def Zcy : Nat → Bk → List Str → Bk × List Str
  | 0, B, l => (B, l)
  | n + 1, B, l => match Zd6 B with
    | none => (B, l)
    | some e => Zcy n (Zf3 B e.1 e.2) (l ++ [e.2.name])
noncomputable def Zra (B : Bk) : Nat := B.pacts.countP fun q => q.state == .opn
theorem Znk {g : Pc → Bool} {ps : List Pc} {j : Nat} {x x' : Pc} (h : ps[j]? = some x) (h1 : g x = true) (h2 : g x' = false) : (ps.set j x').countP g + 1 = ps.countP g := by
  induction ps generalizing j with
  | nil => cases h
  | cons q r ih =>
    cases j with
    | zero => cases h; rw [List.set_cons_zero, List.countP_cons_of_neg (by rw [h2]; exact Bool.false_ne_true), List.countP_cons_of_pos h1]
    | succ j => rw [List.set_cons_succ, List.countP_cons, List.countP_cons, Nat.add_right_comm, ih h]
theorem Zm1 {B : Bk} {j : Nat} {x : Pc} (h : B.pacts[j]? = some x) (ho : (x.state == .opn) = true) : Zra (Zf3 B j x) + 1 = Zra B := Znk h ho rfl
section
variable {o : Addr → Option Role} {H : Zaa} {b f s p : Addr} {as : List Addr} {B : Bk}
theorem Zf6 : ∀ {i : Nat} {as : List Addr} {ps : List Pc}, pactsAt o H i as ps → (dP ps as).map (·.2) = as.map AV.ref ∧ as.length = ps.length
  | _, [], [], _ => ⟨rfl, rfl⟩
  | i, a :: as, q :: qs, h => by
    obtain ⟨h1, h2⟩ := Zf6 h.2
    exact ⟨by rw [dP, List.map_cons, h1]; rfl, congrArg Nat.succ h2⟩
  | _, [], _ :: _, h => h.elim
  | _, _ :: _, [], h => h.elim
theorem IsBook.upN (ib : IsBook o H b f s p as B) {z : Addr} (hz : o z = none) (y : AObj) : IsBook o (up H z y) b f s p as B :=
  ib.congr fun a r v _ hr hv _ => ⟨hr, by rw [Zab (fun e => by rw [e, hz] at hr; cases hr)]; exact hv⟩
end
section
variable {c : Cx} {P : Pg} (G : Gd c P) (U : HasP P) {n : Nat} {md : Bool} {Q : AV → Zaa → Prop} {E : String → Zaa → Prop} {H : Zaa} {o : Addr → Option Role} {b f s p a : Addr} {as : List Addr} {B : Bk} {j : Nat} {x : Pc}
theorem Zgx {g : Gx} {V : VV} {i : Nat} (hP : g.c.P.attrs = BK.attrs) (hmd : g.md = true) (ib : IsBook o H b f s p as B) (hl : B.pacts.length ≤ 100) (hV : V[i]? = some (some (.ref b)))
    (q : ∀ z o' H', H z = none → o' z = none → H' z = some (.list (as.map .ref)) → IsBook o' H' b f s p as B → Fr1 o H o' H' → Q (.ref z) H') : wpX g (.prim .list [.bm (.attr (.var i) "pacts") .values []]) V Q E H := by
  obtain ⟨ep, hp⟩ := ib.hp
  obtain ⟨e1, e2⟩ := Zf6 ib.ps
  have e3 : (dP B.pacts as).length = as.length := by have := congrArg List.length e1; simpa using this
  dsimp only [Zar, Zac, x_bm]
  refine Zco hP ib hV ⟨?_, ?_⟩
  · show match H p with | some (.list _) => _ | some (.dict _ _) => _ | _ => False
    rw [hp]; exact .inl rfl
  (dsimp only [Zaf, Zvu]; rw [hp])
  intro z1 hz1
  have hpz : p ≠ z1 := fun e => by rw [e, hz1] at hp; cases hp
  obtain ⟨ib1, f1⟩ := ib.fresh hz1 (.vals p)
  (dsimp only [Zaf, Ze2]; rw [Zad])
  show match up H z1 (.vals p) p with | some (.dict _ _) => _ | _ => False
  rw [Zab hpz, hp]
  refine ⟨hmd, by rw [e3, e2]; exact Nat.le_trans hl (by decide), fun z2 hz2 => ?_⟩
  obtain ⟨ib2, f2⟩ := ib1.fresh hz2 (.list ((dP B.pacts as).map (·.2)))
  have hz0 : H z2 = none := by
    have hne : z2 ≠ z1 := fun e => by rw [e, Zad] at hz2; cases hz2
    rw [Zab hne] at hz2; exact hz2
  exact q z2 _ _ hz0 (if_pos rfl) (by rw [Zad, e1]) ib2 (f1.trans f2)
theorem Zjj {g : Gx} {V : VV} {e : X} (hP : g.c.P.attrs = BK.attrs) (ip : IsPact o H j a x) (he : ∀ Q' : AV → Zaa → Prop, Q' (.ref a) H → wpX g e V Q' E H) (q : Q (.str x.state.str) H) : wpX g (.attr e "state") V Q E H := by
  obtain ⟨pa, ga, ne, ins, ep, h, _⟩ := ip.at_
  dsimp only [Za4]
  refine he _ ?_
  show match H a with | some (.inst _ _) => _ | some (.book _) => _ | _ => False
  rw [h]; exact ⟨by rw [hP]; rfl, q⟩
include G U
theorem Zd5 (hU : P.fns.lookup "Book.first_dragged" = some BK.f_Book_first_dragged) (ib : IsBook o H b f s p as B) (ok : BkOK B)
    (q : ∀ o' H', IsBook o' H' b f s p as B → Fr1 o H o' H' → match Zd6 B with | some e => ∀ a, as[e.1]? = some a → Q (.ref a) H' | none => Q .none H') : CallOK c (n + 1) true "Book.first_dragged" [.ref b] Q E H := by
  refine G.call (F := BK.f_Book_first_dragged) hU rfl ?_
  have hA : c.P.attrs = BK.attrs := by rw [G.hP, U.a.attrs]
  show wpSs _ _ _ _ _ [some (.ref b), none, none] _
  refine w_st fun K nx => ?_
  dsimp only [Zba]
  refine ⟨rfl, ?_⟩
  refine Zgx hA rfl ib ok.len rfl fun z o' H1 _ hzo hz1 ib1 f1 => ?_
  have q := q o' H1 ib1 f1
  obtain ⟨_, e2⟩ := Zf6 ib1.ps
  refine Zcw (xs := as.map .ref) (by simp only [Zan, hz1]) (fun m V' H' => H' = H1 ∧ (∃ p1 p2, V' = [some (.ref b), p1, p2]) ∧ ∀ i y, i < m → B.pacts[i]? = some y → Zlk B y = false) ⟨rfl, ⟨_, _, rfl⟩, fun i y h => absurd h (Nat.not_lt_zero i)⟩ ?_
  rintro I hI m V' H' ⟨rfl, ⟨p1, p2, rfl⟩, hm⟩
  refine ⟨rfl, fun hlen => ?_, fun y hy => ?_⟩
  · rw [List.length_map, e2] at hlen
    have : Zd6 B = none := Zmk fun i y hy => hm i y (by rw [hlen]; exact (List.getElem?_eq_some_iff.mp hy).1) hy
    rw [this] at q
    exact nx _ _ q
  rw [List.getElem?_map, Option.map_eq_some_iff] at hy
  obtain ⟨a, ha, rfl⟩ := hy
  obtain ⟨x, hx⟩ : ∃ x, B.pacts[m]? = some x := ⟨B.pacts[m]'(by rw [← e2]; exact (List.getElem?_eq_some_iff.mp ha).1), List.getElem?_eq_getElem _⟩
  have ip := ib1.pact hx ha
  refine ⟨show 1 < 3 by decide, ?_⟩
  refine w_st fun K2 nx2 => ?_
  show wpS _ _ _ _ _ [some (.ref b), some (.ref a), p2] _
  dsimp only [Zax, Zak]
  refine Zff hA ip rfl ?_
  (dsimp only [Zag, Zci, Zai]; rw [Zkq])
  have next : Zlk B x = false → I (m + 1) [some (.ref b), some (.ref a), p2] H' := fun h => hI _ _ _ ⟨rfl, ⟨_, _, rfl⟩, fun i y hi hy => by
    rcases Nat.lt_succ_iff_lt_or_eq.mp hi with h' | h'
    · exact hm i y h' hy
    · subst h'; rw [hx] at hy; cases hy; exact h⟩
  cases hs : x.state == Sta.opn with
  | false => exact nx2 _ _ (next (by unfold Zlk; rw [hs]; rfl))
  | true =>
  show wpSs _ _ _ _ _ [some (.ref b), some (.ref a), p2] _
  refine w_st fun K3 nx3 => ?_
  dsimp only [Zba]
  refine ⟨rfl, ?_⟩
  refine Zly hA ip rfl fun zn _ hzn => ?_
  refine Zcw (xs := txs x.needs) (by simp only [Zan, hzn]) (fun i V' H2 => H2 = H' ∧ (∃ p2, V' = [some (.ref b), some (.ref a), p2]) ∧ ∀ i' k, i' < i → x.needs[i']? = some k → Zcn B k = false) ⟨rfl, ⟨_, rfl⟩, fun i y h => absurd h (Nat.not_lt_zero i)⟩ ?_
  rintro J hJ i V' H2 ⟨rfl, ⟨p3, rfl⟩, hi⟩
  refine ⟨rfl, fun hlen => ?_, fun y hy => ?_⟩
  · rw [Za2] at hlen
    refine nx3 _ _ (nx2 _ _ ?_)
    refine hI _ _ _ ⟨rfl, ⟨_, _, rfl⟩, fun i' y hi' hy => ?_⟩
    rcases Nat.lt_succ_iff_lt_or_eq.mp hi' with h' | h'
    · exact hm i' y h' hy
    · subst h'; rw [hx] at hy; cases hy
      unfold Zlk; rw [hs, Bool.true_and, List.any_eq_false]
      intro k hk
      obtain ⟨i2, h2, h3⟩ := List.mem_iff_getElem.mp hk
      rw [hi i2 k (by rw [hlen]; exact h2) (by rw [List.getElem?_eq_getElem h2, h3])]; decide
  obtain ⟨k, rfl, hk⟩ := Zeb hy
  refine ⟨show 2 < 3 by decide, ?_⟩
  refine w_st fun K4 nx4 => ?_
  show wpS _ _ _ _ _ [some (.ref b), some (.ref a), some (.str k)] _
  have nextJ : Zcn B k = false → J (i + 1) [some (.ref b), some (.ref a), some (.str k)] H2 := fun h => hJ _ _ _ ⟨rfl, ⟨_, rfl⟩, fun i' k' hi' hk' => by
    rcases Nat.lt_succ_iff_lt_or_eq.mp hi' with h' | h'
    · exact hi i' k' h' hk'
    · subst h'; rw [hk] at hk'; cases hk'; exact h⟩
  dsimp only [Zax, x_ao, Zat, Zak, Zae]
  refine Zco hA ib1 rfl ?_
  dsimp only [c_in]
  refine Zgu ib1 ?_
  cases e : pAt B.pacts k with
  | none => exact nx4 _ _ (nextJ (by unfold Zcn; rw [e]))
  | some w =>
  show wpAO _ true [_] _ _ _ _
  dsimp only [Za5, Zak]
  obtain ⟨a', ha', ip'⟩ := Zcr ib1.ps (Zfw (j := w.1) (q := w.2) e).1
  rw [Nat.zero_add] at ip'
  refine Zjj hA ip' (fun Q' h => ?_) ?_
  · dsimp only [Zau]
    refine Zco hA ib1 rfl ?_
    dsimp only [Zae]
    exact Zfa ib1 (j := w.1) (x := w.2) e fun a'' h'' _ => by rw [ha'] at h''; cases h''; exact h
  dsimp only [Zag]
  (dsimp only [Zci, Zai]; rw [Zny])
  have hfb : Zcn B k = (w.2.state == .fln) := by unfold Zcn; rw [e]
  cases hw : w.2.state == Sta.fln with
  | false => exact nx4 _ _ (nextJ (hfb.trans hw))
  | true =>
    have hd : Zlk B x = true := by
      unfold Zlk; rw [hs, Bool.true_and, List.any_eq_true]
      exact ⟨k, List.mem_of_getElem? hk, hfb.trans hw⟩
    have : Zd6 B = some (m, x) := Zpq hm hx hd
    rw [this] at q
    exact q a ha
end
end Mine
end
section
open PySem PySem.W PyProof.Rows PySem.Spec PySem.SeqAt PySem.Calls
namespace Mine
theorem Zj4 {n : Nat} {B : Bk} {l : List Str} (h : Zd6 B = none) : Zcy n B l = (B, l) := by
  cases n with
  | zero => rfl
  | succ n => unfold Zcy; rw [h]
theorem Zj3 {n : Nat} {B : Bk} {l : List Str} {e : Nat × Pc} (h : Zd6 B = some e) : Zcy (n + 1) B l = Zcy n (Zf3 B e.1 e.2) (l ++ [e.2.name]) := by
  conv => lhs; unfold Zcy
  rw [h]
theorem fell_len {B : Bk} {j : Nat} {x : Pc} : (Zf3 B j x).pacts.length = B.pacts.length := List.length_set
theorem Zq9 {B : Bk} : Zra B ≤ B.pacts.length := List.countP_le_length
section
variable {c : Cx} {P : Pg} (G : Gd c P) (U : HasP P) {n : Nat} {md : Bool} {Q : AV → Zaa → Prop} {E : String → Zaa → Prop} {H : Zaa} {o : Addr → Option Role} {b f s p a : Addr} {as : List Addr} {B : Bk} {j : Nat} {x : Pc}
inductive Zwv (o : Addr → Option Role) (H : Zaa) (b f s p : Addr) (as : List Addr) (R : Bk × List Str) (l0 : Nat) (v1 : Option AV) (z : Addr) (m : Nat) (V' : VV) (H' : Zaa) : Prop
  | mk (o' : Addr → Option Role) (B' : Bk) (l : List Str) (v : AV) (hV : V' = [some (.ref b), v1, some (.ref z), some v]) (ib : IsBook o' H' b f s p as B') (ok : BkOK B') (fr : Fr1 o H o' H') (hz : H' z = some (.list (txs l))) (ho : o' z = none) (hl : l.length + m ≤ l0) (hm : Zra B' ≤ m) (hR : Zcy m B' l = R)
      (hv : match Zd6 B' with | some e => ∃ a, as[e.1]? = some a ∧ v = .ref a | none => v = .none) : Zwv o H b f s p as R l0 v1 z m V' H'
include G U
set_option tactic.hygienic true in
theorem Zig {nl : Addr} {l : List Str} (hU : P.fns.lookup "Book.dragged" = some BK.f_Book_dragged) (hU1 : P.fns.lookup "Book.first_dragged" = some BK.f_Book_first_dragged) (hU2 : P.fns.lookup "Book.fell" = some BK.f_Book_fell) (hU3 : P.fns.lookup "Book.given_back" = some BK.f_Book_given_back)
    (ib : IsBook o H b f s p as B) (ok : BkOK B) (hn : H nl = some (.list (txs l))) (hno : o nl = none) (hl : l.length ≤ 200)
    (q : ∀ z o' H', H z = none → o' z = none → H' z = some (.list (txs (Zcy B.pacts.length B l).2)) → IsBook o' H' b f s p as (Zcy B.pacts.length B l).1 → Fr1 o H o' H' → Q (.ref z) H') : CallOK c (n + 3) true "Book.dragged" [.ref b, .ref nl] Q E H := by
  refine G.call (F := BK.f_Book_dragged) hU rfl ?_
  have hM : c.P.meths = BK.meths := by rw [G.hP, U.a.meths]
  show wpSs _ _ _ _ _ [some (.ref b), some (.ref nl), none, none] _
  refine w_st fun K nx => ?_
  dsimp only [Zaj, tv, List.length_cons, List.length_nil, Nat.reduceAdd, List.set_cons_succ, List.set_cons_zero, Zar, Zac, Zaf, Zae, List.getElem?_cons_succ, v_0]
  refine Zkz hn (by exact Nat.le_trans (by assumption) (by decide)) fun z hz => ⟨by decide, nx _ _ ?_⟩
  obtain ⟨ib1, f1⟩ := ib.fresh hz (.list (txs l))
  have hz1 : up H z (.list (txs l)) z = some (.list (txs l)) := Zad
  have hzo : (fun a => if a = z then none else o a) z = (none : Option Role) := if_pos rfl
  generalize (fun a => if a = z then none else o a) = o1 at ib1 f1 hzo
  generalize up H z (.list (txs l)) = H1 at ib1 f1 hz1
  refine w_st fun K nx => ?_
  dsimp only [Zaj]
  refine Zbk hM (by decide) (by decide) ib1 rfl ?_
  dsimp only [Zaf]
  refine Zd5 G U hU1 ib1 ok fun o2 H2 ib2 f2 => ?_
  obtain ⟨hz2, hzo2⟩ := f2.old _ _ hz1 hzo
  have key : ∀ v, (match Zd6 B with | some e => ∃ a, as[e.1]? = some a ∧ v = .ref a | none => v = .none) → 3 < 4 ∧ K [some (.ref b), some (.ref nl), some (.ref z), some v] H2 := fun v hv => by
    refine ⟨by decide, nx _ _ ?_⟩
    refine w_st fun K nx => ?_
    dsimp only [Zbq]
    refine ⟨rfl, Zwv o H b f s p as (Zcy B.pacts.length B l) (l.length + B.pacts.length) (some (.ref nl)) z, ⟨_, o2, B, l, v, rfl, ib2, ok, f1.trans f2, hz2, hzo2, Nat.le_refl _, Zq9, rfl, hv⟩, ?_⟩
    rintro m V' H' ⟨o', B', l', v', rfl, ib', ok', fr', hz', ho', hl', hm', hR', hv'⟩
    dsimp only [Zak, Zae]
    show wpX _ (.lit .none) _ _ _ _
    dsimp only [Zag]
    cases e : Zd6 B' with
    | none =>
      rw [e] at hv'
      subst hv'
      rw [Zj4 e] at hR'
      refine nx _ _ ?_
      have q := q z o' H' hz ho'
      rw [← hR'] at q
      exact q hz' ib' fr'
    | some w =>
      rw [e] at hv'
      obtain ⟨a, ha, rfl⟩ := hv'
      obtain ⟨hj, hd⟩ := Zuc (m := w.1) (x := w.2) e
      have hopn : (w.2.state == Sta.opn) = true := (Bool.and_eq_true _ _ ▸ (show (w.2.state == Sta.opn && w.2.needs.any (Zcn B')) = true from hd)).1
      have hop := Zm1 hj hopn
      obtain ⟨m, rfl⟩ : ∃ m', m = m' + 1 := ⟨m - 1, by lia⟩
      rw [Zj3 e] at hR'
      show wpSs _ _ _ _ _ [some (.ref b), some (.ref nl), some (.ref z), some (.ref a)] _
      refine w_st fun K2 nx2 => ?_
      dsimp only [Zao, x_bm, Zae]
      refine ⟨?_, ?_⟩
      · show match H' z with | some (.list _) => _ | some (.dict _ _) => _ | _ => False
        rw [hz']; exact .inl rfl
      dsimp only [Zac]
      refine Zbk hM (by decide) (by decide) ib' rfl ?_
      dsimp only [Zac, Zae]
      refine Zlh G U hU2 hU3 ib' ok' hj ha fun o3 H3 ib3 f3 => ?_
      obtain ⟨hz3, hzo3⟩ := f3.old _ _ hz' ho'
      dsimp only [Zaf]
      refine Zb5 hz3 (by rw [Za2]; have := ok.len; lia) (nx2 _ _ ?_)
      rw [Zdv]
      have ib4 := ib3.upN hzo3 (.list (txs (l' ++ [w.2.name])))
      have fr4 : Fr1 o H o3 (up H3 z (.list (txs (l' ++ [w.2.name])))) := ⟨fun y v hy hyo => by
        have := (fr'.trans f3).old y v hy hyo
        exact ⟨by rw [Zab (fun e => by rw [e, hz] at hy; cases hy)]; exact this.1, this.2⟩, fun y h => (fr'.trans f3).gr y (Zc3 h)⟩
      refine w_st fun K3 nx3 => ?_
      dsimp only [Zaj]
      refine Zbk hM (by decide) (by decide) ib4 rfl ?_
      dsimp only [Zaf]
      have ok4 := ok'.fell hj
      refine Zd5 G U hU1 ib4 ok4 fun o5 H5 ib5 f5 => ?_
      obtain ⟨hz5, hzo5⟩ := f5.old z _ Zad hzo3
      have fin : ∀ v, (match Zd6 (Zf3 B' w.1 w.2) with | some e => ∃ a, as[e.1]? = some a ∧ v = .ref a | none => v = .none) → 3 < 4 ∧ K3 [some (.ref b), some (.ref nl), some (.ref z), some v] H5 := fun v hv => ⟨by decide, nx3 _ _ ⟨m, Nat.lt_succ_self m, o5, Zf3 B' w.1 w.2, l' ++ [w.2.name], v, rfl, ib5, ok4, fr4.trans f5, hz5, hzo5, by rw [List.length_append]; simp only [List.length_cons, List.length_nil]; lia, by lia, hR', hv⟩⟩
      cases e5 : Zd6 (Zf3 B' w.1 w.2) with
      | none => exact fin _ (by rw [e5])
      | some w5 => exact fun a5 ha5 => fin _ (by rw [e5]; exact ⟨a5, ha5, rfl⟩)
  cases e : Zd6 B with
  | none => exact key _ (by rw [e])
  | some w => exact fun a ha => key _ (by rw [e]; exact ⟨a, ha, rfl⟩)
noncomputable def offQ (B : Bk) (w : AV) : Except String (Bk × List Str) := match Zcp B w with
  | none => .error "NoPact"
  | some e => if e.2.state = .opn then .ok (Zcy B.pacts.length (Zf3 B e.1 e.2) [e.2.name]) else .error "NotOpen"
theorem Zto {w : AV} (hU0 : P.fns.lookup "Book.call_off" = some BK.f_Book_call_off) (hU : P.fns.lookup "Book.dragged" = some BK.f_Book_dragged) (hU1 : P.fns.lookup "Book.first_dragged" = some BK.f_Book_first_dragged) (hU2 : P.fns.lookup "Book.fell" = some BK.f_Book_fell) (hU3 : P.fns.lookup "Book.given_back" = some BK.f_Book_given_back)
    (ib : IsBook o H b f s p as B) (ok : BkOK B) (hw : Kn H w)
    (q : match offQ B w with | .ok r => ∀ z o' H', H z = none → o' z = none → H' z = some (.list (txs r.2)) → IsBook o' H' b f s p as r.1 → Fr1 o H o' H' → Q (.ref z) H' | .error cl => E cl H) : CallOK c (n + 4) true "Book.call_off" [.ref b, w] Q E H := by
  refine G.call (F := BK.f_Book_call_off) hU0 rfl ?_
  have hM : c.P.meths = BK.meths := by rw [G.hP, U.a.meths]
  show wpSs _ _ _ _ _ [some (.ref b), some w] _
  refine w_st fun K nx => ?_
  dsimp only [Za8]
  refine Zbk hM (by decide) (by decide) ib rfl ?_
  dsimp only [Zac, Zam]
  refine Zbk hM (by decide) (by decide) ib rfl ?_
  dsimp only [Zac]
  refine Zbk hM (by decide) (by decide) ib rfl ?_
  dsimp only [Zac, Zae]
  refine Zge G U ib hw ?_
  unfold offQ at q
  cases e : Zcp B w with
  | none => rw [e] at q; exact q
  | some x =>
    rw [e] at q
    have hj := Zfe (j := x.1) (x := x.2) e
    show if x.2.state = .opn then _ else _
    by_cases ho : x.2.state = .opn
    · refine Eq.mpr (if_pos ho) ?_
      dsimp only at q
      rw [if_pos ho] at q
      intro a ha ip
      refine Eq.mpr (Zaf) ?_
      refine Zlh G U hU2 hU3 ib ok hj ha fun o1 H1 ib1 f1 => ?_
      rw [Zaf]
      intro z hz
      dsimp only [Zaf]
      obtain ⟨ib2, f2⟩ := ib1.fresh hz (.list (txs [x.2.name]))
      refine Zig G U (l := [x.2.name]) hU hU1 hU2 hU3 ib2 (ok.fell hj) Zad (if_pos rfl) (by simp) fun z' o' H' h1 h2 h3 h4 h5 => ?_
      rw [fell_len] at h3 h4
      exact q z' o' H' ((f1.trans f2).gr z' h1) h2 h3 h4 ((f1.trans f2).trans h5)
    · refine Eq.mpr (if_neg ho) ?_
      dsimp only at q
      rw [if_neg ho] at q
      exact q
end
end Mine
end
section
open PySem PySem.W PyProof.Rows PySem.Spec PySem.SeqAt PySem.Calls
namespace Mine
structure Kv (v : AV) : Prop where
  nr : ∀ a, v ≠ .ref a
  len : ∀ s, v = .str s → s.length < 2 ^ 62
theorem Kv.kn {v : AV} (h : Kv v) {H : Zaa} : Kn H v := by
  refine ⟨?_, h.len⟩
  cases v with
  | ref a => exact absurd rfl (h.nr a)
  | _ => exact ⟨_, rfl⟩
noncomputable def Zdg (B : Bk) : List (AV × AV) → List (Str × Int) → Except String (List (Str × Int))
  | [], acc => .ok acc
  | e :: r, acc => if Zbn B e.1 then (if Zaz e.1 ∈ acc.map (·.1) then .error "Twice" else if Zb1 e.2 then Zdg B r (acc ++ [(Zaz e.1, Zc9 e.2)]) else .error "NoAmount") else .error "NoPurse"
noncomputable def Zcf (B : Bk) (l : List (AV × AV)) : Except String (List (Str × Int)) := if 1 ≤ l.length ∧ l.length ≤ 8 then Zdg B l [] else .error "NoRow"
noncomputable def Zfd (o : Addr → Option Role) (H : Zaa) : List Addr → List (AV × AV) → Prop
  | [], [] => True
  | t :: ts, e :: l => (o t = none ∧ H t = some (.tuple [e.1, e.2]) ∧ Kv e.1 ∧ Kv e.2) ∧ Zfd o H ts l
  | _, _ => False
noncomputable def pairsU (H0 : Zaa) (o : Addr → Option Role) (H : Zaa) : List Addr → List (Str × Int) → Prop
  | [], [] => True
  | t :: ts, e :: l => (H0 t = none ∧ o t = none ∧ H t = some (.tuple [.str e.1, .int e.2])) ∧ pairsU H0 o H ts l
  | _, _ => False
section
variable {o o' : Addr → Option Role} {H H' H0 : Zaa}
theorem Zb3 : ∀ {ts : List Addr} {l : List (AV × AV)} {m : Nat} {t : Addr}, Zfd o H ts l → ts[m]? = some t → ∃ e, l[m]? = some e ∧ o t = none ∧ H t = some (.tuple [e.1, e.2]) ∧ Kv e.1 ∧ Kv e.2
  | _ :: _, e :: _, 0, _, h, z => by cases z; exact ⟨e, rfl, h.1⟩
  | _ :: ts, _ :: l, m + 1, _, h, z => Zb3 (m := m) h.2 z
  | [], [], _, _, _, z => by cases z
  | [], _ :: _, _, _, h, _ => h.elim
  | _ :: _, [], _, _, h, _ => h.elim
theorem Zh3 : ∀ {ts : List Addr} {l : List (AV × AV)}, Zfd o H ts l → ts.length = l.length
  | [], [], _ => rfl
  | _ :: _, _ :: _, h => congrArg Nat.succ (Zh3 h.2)
  | [], _ :: _, h => h.elim
  | _ :: _, [], h => h.elim
theorem pairsU.keep (k : ∀ t v, H0 t = none → o t = none → H t = some (.tuple v) → o' t = none ∧ H' t = some (.tuple v)) : ∀ {ts : List Addr} {l : List (Str × Int)}, pairsU H0 o H ts l → pairsU H0 o' H' ts l
  | [], [], _ => trivial
  | t :: _, _ :: _, h => ⟨⟨h.1.1, k t _ h.1.1 h.1.2.1 h.1.2.2⟩, pairsU.keep k h.2⟩
  | [], _ :: _, h => h.elim
  | _ :: _, [], h => h.elim
theorem pairsU.snoc {t : Addr} {e : Str × Int} (h0 : H0 t = none ∧ o t = none ∧ H t = some (.tuple [.str e.1, .int e.2])) : ∀ {ts : List Addr} {l : List (Str × Int)}, pairsU H0 o H ts l → pairsU H0 o H (ts ++ [t]) (l ++ [e])
  | [], [], _ => ⟨h0, trivial⟩
  | _ :: _, _ :: _, h => ⟨h.1, pairsU.snoc h0 h.2⟩
  | [], _ :: _, h => h.elim
  | _ :: _, [], h => h.elim
theorem Zfv : ∀ {ts : List Addr} {l : List (Str × Int)}, pairsU H0 o H ts l → ts.length = l.length
  | [], [], _ => rfl
  | _ :: _, _ :: _, h => congrArg Nat.succ (Zfv h.2)
  | [], _ :: _, h => h.elim
  | _ :: _, [], h => h.elim
theorem Fr1.upF {z : Addr} {y : AObj} (fr : Fr1 o H o' H') (hz : H z = none) : Fr1 o H o' (up H' z y) :=
  ⟨fun a v h k => ⟨by rw [Zab (fun e => by rw [e, hz] at h; cases h)]; exact (fr.old a v h k).1, (fr.old a v h k).2⟩, fun a h => fr.gr a (Zc3 h)⟩
end
inductive Zwt (B : Bk) (o : Addr → Option Role) (H : Zaa) (b f s p : Addr) (as : List Addr) (l : List (AV × AV)) (R : Except String (List (Str × Int))) (v1 : Option AV) (z sd : Addr) (m : Nat) (V' : VV) (H' : Zaa) : Prop
  | mk (o' : Addr → Option Role) (acc : List (Str × Int)) (ts : List Addr) (ep : Nat) (pr : Option AV) (hV : V' = [some (.ref b), v1, some (.ref z), some (.ref sd), pr]) (ib : IsBook o' H' b f s p as B) (fr : Fr1 o H o' H') (hz : H' z = some (.list (ts.map .ref))) (hzo : o' z = none) (hs : H' sd = some (.dict ep ((acc.map (·.1)).map fun k => (k, .bool true)))) (hso : o' sd = none)
      (pu : pairsU H o' H' ts acc) (hl : acc.length = m) (hR : Zdg B (l.drop m) acc = R) : Zwt B o H b f s p as l R v1 z sd m V' H'
section
variable {c : Cx} {P : Pg} (G : Gd c P) (U : HasP P) {n : Nat} {md : Bool} {Q : AV → Zaa → Prop} {E : String → Zaa → Prop} {H : Zaa} {o : Addr → Option Role} {b f s p a : Addr} {as : List Addr} {B : Bk} {j : Nat} {x : Pc}
theorem tup0 {H : Zaa} {Q : AV → Zaa → Prop} {t : Addr} {v w : AV} (h : H t = some (.tuple [v, w])) (q : Q v H) : wsub (.ref t) (.int 0) Q H := Zey h (by decide) rfl (by simp) q
theorem tup1 {H : Zaa} {Q : AV → Zaa → Prop} {t : Addr} {v w : AV} (h : H t = some (.tuple [v, w])) (q : Q w H) : wsub (.ref t) (.int 1) Q H := Zey h (by decide) rfl (by simp) q
include G U
set_option tactic.hygienic true in
theorem Zg8 {pl : Addr} {ts : List Addr} {l : List (AV × AV)} (hU : P.fns.lookup "Book.pairs_of" = some BK.f_Book_pairs_of) (ib : IsBook o H b f s p as B) (hp : H pl = some (.list (ts.map .ref))) (hpo : o pl = none) (hg : Zfd o H ts l) (hll : l.length ≤ 1000)
    (q : match Zcf B l with | .ok r => (∀ z ts o' H', H z = none → o' z = none → H' z = some (.list (ts.map .ref)) → pairsU H o' H' ts r → IsBook o' H' b f s p as B → Fr1 o H o' H' → Q (.ref z) H') | .error cl => ∀ o' H', IsBook o' H' b f s p as B → Fr1 o H o' H' → E cl H') : CallOK c (n + 3) true "Book.pairs_of" [.ref b, .ref pl] Q E H := by
  refine G.call (F := BK.f_Book_pairs_of) hU rfl ?_
  have hM : c.P.meths = BK.meths := by rw [G.hP, U.a.meths]
  have hgl : c.P.consts.lookup "MOST" = some (.int 8) := by rw [G.hP, U.a.consts]; rfl
  have hlen := Zh3 hg
  show wpSs _ _ _ _ _ [some (.ref b), some (.ref pl), none, none, none] _
  unfold Zcf at q
  refine w_st fun K nx => ?_
  dsimp only [Zax, Za9, Za3, Zag, Zar, Zac, Zae]
  show wpXs _ [] _ _ _ _
  (dsimp only [Zaf, Zgb]; rw [hp])
  refine ⟨by rw [List.length_map]; lia, ?_⟩
  (rw [List.length_map, hlen]; dsimp only [c_le, Zai])
  by_cases h1 : 1 ≤ l.length
  case neg =>
    rw [if_neg (fun h => h1 h.1)] at q
    rw [decide_eq_false (by lia)]
    exact ⟨rfl, q o H ib .refl⟩
  (rw [decide_eq_true (by exact Int.ofNat_lt.mpr (by assumption))]; refine Eq.mpr (if_pos rfl) ?_; dsimp only [Za1])
  show match c.P.consts.lookup "MOST" with | some v => _ | none => False
  rw [hgl]
  show wcmp .LtE (.int l.length) (.int 8) _ _
  dsimp only [c_le]
  by_cases h2 : l.length ≤ 8
  case neg =>
    rw [if_neg (fun h => h2 h.2)] at q
    rw [decide_eq_false (by lia)]
    exact ⟨rfl, q o H ib .refl⟩
  rw [decide_eq_true (by exact Int.ofNat_le.mpr (by assumption))]
  rw [if_pos ⟨h1, h2⟩] at q
  refine nx _ _ ?_
  refine w_st fun K nx => ?_
  dsimp only [Zaj, Zam, Zaf]
  intro z hz
  refine ⟨show 2 < 5 by decide, nx _ _ ?_⟩
  obtain ⟨ib1, f1⟩ := ib.fresh hz (.list [])
  refine w_st fun K nx => ?_
  dsimp only [Zaj, Zap]
  intro sd hsd
  refine ⟨show 3 < 5 by decide, nx _ _ ?_⟩
  obtain ⟨ib2, f2⟩ := ib1.fresh hsd (.dict 0 [])
  have hzs : z ≠ sd := Zgm hsd
  have hsd0 : H sd = none := Zc3 hsd
  refine w_st fun K nx => ?_
  dsimp only [Zba, Zae]
  refine ⟨rfl, ?_⟩
  show WFor _ _ (.ref pl) _ _
  have fr2 := f1.trans f2
  obtain ⟨hp2, hpo2⟩ := fr2.old _ _ hp hpo
  refine Zcw (xs := ts.map .ref) (by simp only [Zan, hp2]) (Zwt B o H b f s p as l (Zdg B l []) (some (.ref pl)) z sd) ⟨_, [], [], 0, none, rfl, ib2, fr2, by rw [Zab hzs, Zad]; rfl, by rw [if_neg hzs, if_pos rfl], Zad, if_pos rfl, trivial, rfl, rfl⟩ ?_
  rintro I hI m V' H' ⟨o', acc, us, ep, pr, rfl, ib', fr', hz', hzo', hs', hso', pu, hlm, hR⟩
  refine ⟨by show H' pl = _; rw [(fr'.old _ _ hp hpo).1, hp2], fun hm => ?_, fun y hy => ?_⟩
  · rw [List.length_map, hlen] at hm
    rw [hm, List.drop_length] at hR
    rw [← hR] at q
    exact nx _ _ (q z us o' H' hz hzo' hz' pu ib' fr')
  rw [List.getElem?_map, Option.map_eq_some_iff] at hy
  obtain ⟨t, ht, rfl⟩ := hy
  obtain ⟨e, he, hto, htt, kv1, kv2⟩ := Zb3 hg ht
  obtain ⟨htt', _⟩ := fr'.old _ _ htt hto
  have hdrop : l.drop m = e :: l.drop (m + 1) := by
    obtain ⟨hlt, hee⟩ := List.getElem?_eq_some_iff.mp he
    rw [← hee]; exact List.drop_eq_getElem_cons hlt
  rw [hdrop, Zdg] at hR
  refine ⟨show 4 < 5 by decide, ?_⟩
  refine w_st fun K2 nx2 => ?_
  show wpS _ _ _ _ _ [some (.ref b), some (.ref pl), some (.ref z), some (.ref sd), some (.ref t)] _
  dsimp only [Zao]
  refine Zbk hM (by decide) (by decide) ib' rfl ?_
  dsimp only [Zac, Zau]
  refine tup0 htt' ?_
  dsimp only [Zaf]
  refine Zck G U.a ib' kv1.kn ?_
  cases hpb : Zbn B e.1 with
  | false =>
    rw [hpb] at hR
    rw [← hR] at q
    exact q o' H' ib' fr'
  | true =>
  obtain ⟨k, hk⟩ : ∃ k, e.1 = .str k := ⟨_, (Zce hpb).1⟩
  rw [hpb, if_pos rfl] at hR
  rw [hk] at htt' hR
  have hkk : Zaz (.str k) = k := rfl
  rw [hkk] at hR
  refine nx2 _ _ ?_
  refine w_st fun K2 nx2 => ?_
  dsimp only [Zax, Zak, Zau]
  refine tup0 htt' ?_
  dsimp only [Zae]
  show wcmp .In (.str k) (.ref sd) _ _
  (dsimp only [c_in, Zd4]; rw [hs'])
  show Zbh (.bool (Zb0 ((acc.map (·.1)).map fun k => (k, .bool true)) k).isSome) _ _
  (rw [Zgt]; dsimp only [Zai])
  by_cases hin : k ∈ acc.map (·.1)
  · rw [if_pos hin] at hR
    rw [← hR] at q
    rw [decide_eq_true hin]
    exact ⟨rfl, q o' H' ib' fr'⟩
  rw [if_neg hin] at hR
  rw [decide_eq_false hin]
  refine nx2 _ _ ?_
  refine w_st fun K2 nx2 => ?_
  dsimp only [Zaj, Zag, tsub, Zae]
  show wpX _ (.sub (.var 4) (.lit (.int 0))) _ _ _ _
  dsimp only [Zau, Zae]
  show wpX _ (.lit (.int 0)) _ _ _ _
  dsimp only [Zag]
  refine tup0 htt' ?_
  show match H' sd with | some (.dict _ _) => _ | _ => False
  rw [hs']
  refine ⟨by rw [List.length_map, List.length_map, hlm]; have : m < l.length := (List.getElem?_eq_some_iff.mp he).1; exact Nat.le_trans (Nat.le_of_lt (Nat.lt_of_lt_of_le this hll)) (by decide), fun ep' => nx2 _ _ ?_⟩
  rw [Zkv hin]
  have ib3 := ib'.upN hso' (.dict ep' ((acc.map (·.1) ++ [k]).map fun k => (k, .bool true)))
  have fr3 : Fr1 o H o' (up H' sd (.dict ep' ((acc.map (·.1) ++ [k]).map fun k => (k, .bool true)))) := fr'.upF hsd0
  have hz3 : up H' sd (.dict ep' ((acc.map (·.1) ++ [k]).map fun k => (k, .bool true))) z = some (.list (us.map .ref)) := by rw [Zab hzs]; exact hz'
  have hs3 : up H' sd (.dict ep' ((acc.map (·.1) ++ [k]).map fun k => (k, .bool true))) sd = some (.dict ep' ((acc.map (·.1) ++ [k]).map fun k => (k, .bool true))) := Zad
  have pu3 : pairsU H o' (up H' sd (.dict ep' ((acc.map (·.1) ++ [k]).map fun k => (k, .bool true)))) us acc := pu.keep fun t v _ h1 h2 => ⟨h1, by rw [Zab (fun e => by rw [e, hs'] at h2; cases h2)]; exact h2⟩
  generalize up H' sd (.dict ep' ((acc.map (·.1) ++ [k]).map fun k => (k, .bool true))) = H3 at ib3 fr3 hz3 hs3 pu3
  obtain ⟨htt3, _⟩ := fr3.old _ _ htt hto
  rw [hk] at htt3
  refine w_st fun K2 nx2 => ?_
  dsimp only [Zao, x_bm, Zae]
  refine ⟨?_, ?_⟩
  · show match H3 z with | some (.list _) => _ | some (.dict _ _) => _ | _ => False
    rw [hz3]; exact .inl rfl
  dsimp only [Zac, Zbg, Zau]
  refine tup0 htt3 ?_
  dsimp only [Zac, Zal, Zau]
  refine tup1 htt3 ?_
  refine Eq.mpr (Zaf) ?_
  refine Zki G U.a kv2.kn ?_
  cases hab : Zb1 e.2 with
  | false =>
    rw [hab] at hR
    rw [← hR] at q
    exact q o' H3 ib3 fr3
  | true =>
  obtain ⟨i, hi⟩ : ∃ i, e.2 = .int i := ⟨_, Zij hab⟩
  rw [hab, if_pos rfl] at hR
  rw [hi] at hR ⊢
  rw [if_pos rfl, Zaf]
  intro t4 ht4
  obtain ⟨ib4, f4⟩ := ib3.fresh ht4 (.tuple [.str k, .int i])
  have fr4 := fr3.trans f4
  obtain ⟨hz4, hzo4⟩ := f4.old _ _ hz3 hzo'
  obtain ⟨hs4, hso4⟩ := f4.old _ _ hs3 hso'
  have pu4 := pu3.keep (H0 := H) (H' := up H3 t4 (.tuple [.str k, .int i])) (o' := fun a => if a = t4 then none else o' a) fun t v _ h1 h2 => ⟨(f4.old _ _ h2 h1).2, (f4.old _ _ h2 h1).1⟩
  have pu5 := pu4.snoc (t := t4) (e := (k, i)) ⟨fr3.gr t4 ht4, if_pos rfl, Zad⟩
  dsimp only [Zaf]
  refine Zb5 hz4 (by rw [List.length_map, Zfv pu, hlm]; have : m < l.length := (List.getElem?_eq_some_iff.mp he).1; lia) (nx2 _ _ ?_)
  refine hI _ _ _ ⟨_, acc ++ [(k, i)], us ++ [t4], ep', some (.ref t), rfl, ib4.upN hzo4 _, fr4.upF hz, by rw [Zad, List.map_append]; rfl, hzo4, by rw [Zab hzs.symm, hs4, List.map_append (f := fun x : Str × Int => x.1)]; rfl, hso4, pu5.keep fun t v _ h1 h2 => ⟨h1, by rw [Zab (fun e => by rw [e, hz4] at h2; cases h2)]; exact h2⟩, by rw [List.length_append, hlm]; rfl, hR⟩
end
end Mine
end
section
open PySem PySem.W PyProof.Rows PySem.Spec PySem.SeqAt PySem.Calls
namespace Mine
noncomputable def Zev (B : Bk) : List AV → List Str → Except String Unit
  | [], _ => .ok ()
  | v :: r, seen => if Zbz v then (if Zaz v ∈ seen then .error "Twice" else if Zcn B (Zaz v) then .error "Fallen" else Zev B r (seen ++ [Zaz v])) else .error "NoName"
noncomputable def Zd3 (B : Bk) (k : Str) (l : List AV) : Except String Unit := if l.length ≤ 8 then Zev B l [k] else .error "NoRow"
theorem Zo8 {α : Type} {p : Prop} [Decidable p] {x : Except String α} {e : String} {r : α} (h : (if p then x else .error e) = .ok r) : p ∧ x = .ok r := by
  by_cases hp : p
  · rw [if_pos hp] at h; exact ⟨hp, h⟩
  · rw [if_neg hp] at h; cases h
theorem Zpa {α : Type} {p : Prop} [Decidable p] {x : Except String α} {e : String} {r : α} (h : (if p then .error e else x) = .ok r) : ¬ p ∧ x = .ok r := by
  by_cases hp : p
  · rw [if_pos hp] at h; cases h
  · rw [if_neg hp] at h; exact ⟨hp, h⟩
theorem Zh9 {B : Bk} {l : List AV} {seen : List Str} (h : Zev B l seen = .ok ()) : l = txs (l.map Zaz) := by
  induction l generalizing seen with
  | nil => rfl
  | cons v r ih =>
    obtain ⟨hn, h⟩ := Zo8 h
    have := ih (Zpa (Zpa h).2).2
    rw [List.map_cons]
    show v :: r = .str (Zaz v) :: txs (r.map Zaz)
    rw [← Zcs hn, ← this]
inductive Zwu (B : Bk) (o : Addr → Option Role) (H : Zaa) (b f s p : Addr) (as : List Addr) (l : List AV) (R : Except String Unit) (v1 v2 : Option AV) (sd : Addr) (m : Nat) (V' : VV) (H' : Zaa) : Prop
  | mk (o' : Addr → Option Role) (seen : List Str) (ep : Nat) (pr : Option AV) (hV : V' = [some (.ref b), v1, v2, some (.ref sd), pr]) (ib : IsBook o' H' b f s p as B) (fr : Fr1 o H o' H') (hs : H' sd = some (.dict ep (seen.map fun k => (k, .bool true)))) (hso : o' sd = none) (hl : seen.length = m + 1) (hR : Zev B (l.drop m) seen = R) : Zwu B o H b f s p as l R v1 v2 sd m V' H'
section
variable {c : Cx} {P : Pg} (G : Gd c P) (U : HasP P) {n : Nat} {md : Bool} {Q : AV → Zaa → Prop} {E : String → Zaa → Prop} {H : Zaa} {o : Addr → Option Role} {b f s p a : Addr} {as : List Addr} {B : Bk} {j : Nat} {x : Pc}
include G U
set_option tactic.hygienic true in
theorem Zk4 {nl : Addr} {l : List AV} {kn : Str} (hU : P.fns.lookup "Book.needs_of" = some BK.f_Book_needs_of) (ib : IsBook o H b f s p as B) (hp : H nl = some (.list l)) (hpo : o nl = none) (hg : ∀ v ∈ l, Kv v) (hll : l.length ≤ 1000)
    (q : match Zd3 B kn l with | .ok _ => (∀ z o' H', H z = none → o' z = none → H' z = some (.list l) → IsBook o' H' b f s p as B → Fr1 o H o' H' → Q (.ref z) H') | .error cl => ∀ o' H', IsBook o' H' b f s p as B → Fr1 o H o' H' → E cl H') : CallOK c (n + 3) true "Book.needs_of" [.ref b, .str kn, .ref nl] Q E H := by
  refine G.call (F := BK.f_Book_needs_of) hU rfl ?_
  have hA : c.P.attrs = BK.attrs := by rw [G.hP, U.a.attrs]
  have hgl : c.P.consts.lookup "MOST" = some (.int 8) := by rw [G.hP, U.a.consts]; rfl
  show wpSs _ _ _ _ _ [some (.ref b), some (.str kn), some (.ref nl), none, none] _
  unfold Zd3 at q
  refine w_st fun K nx => ?_
  dsimp only [Zax, Zak, Zar, Zac, Zae]
  show wpXs _ [] _ _ _ _
  (dsimp only [Zaf, Zgb]; rw [hp])
  refine ⟨by exact Nat.lt_of_le_of_lt (by assumption) (by decide), ?_⟩
  dsimp only [Za1]
  show match c.P.consts.lookup "MOST" with | some v => _ | none => False
  rw [hgl]
  show wcmp .Gt (.int l.length) (.int 8) _ _
  dsimp only [c_gt, Zai]
  by_cases h2 : l.length ≤ 8
  case neg =>
    rw [if_neg h2] at q
    rw [decide_eq_true (by omega)]
    exact ⟨rfl, q o H ib .refl⟩
  rw [decide_eq_false (by omega)]
  rw [if_pos h2] at q
  refine nx _ _ ?_
  refine w_st fun K nx => ?_
  dsimp only [Zaj, Za7, Zae]
  show ∀ a ep, H a = none → _
  intro sd ep0 hsd
  refine ⟨show 3 < 5 by decide, nx _ _ ?_⟩
  obtain ⟨ib2, fr2⟩ := ib.fresh hsd (.dict ep0 [(kn, .bool true)])
  refine w_st fun K nx => ?_
  dsimp only [Zba, Zae]
  refine ⟨rfl, ?_⟩
  show WFor _ _ (.ref nl) _ _
  obtain ⟨hp2, hpo2⟩ := fr2.old _ _ hp hpo
  refine Zcw (xs := l) (by simp only [Zan, hp2]) (Zwu B o H b f s p as l (Zev B l [kn]) (some (.str kn)) (some (.ref nl)) sd) ⟨_, [kn], ep0, none, rfl, ib2, fr2, Zad, if_pos rfl, rfl, rfl⟩ ?_
  rintro I hI m V' H' ⟨o', seen, ep, pr, rfl, ib', fr', hs', hso', hlm, hR⟩
  obtain ⟨hp', hpo'⟩ := fr'.old _ _ hp hpo
  refine ⟨by show H' nl = _; rw [hp', hp2], fun hm => ?_, fun v hv => ?_⟩
  · rw [hm, List.drop_length] at hR
    rw [← hR] at q
    refine nx _ _ ?_
    refine w_st fun K nx => ?_
    dsimp only [Za8, Zar, Zac, Zae]
    show wpXs _ [] _ _ _ _
    (dsimp only [Zaf, Ze2]; rw [hp'])
    refine ⟨Nat.le_trans hll (by decide), fun z hz => ?_⟩
    obtain ⟨ib3, f3⟩ := ib'.fresh hz (.list l)
    exact q z _ _ (fr'.gr z hz) (if_pos rfl) Zad ib3 (fr'.trans f3)
  have hdrop : l.drop m = v :: l.drop (m + 1) := by
    obtain ⟨hlt, hee⟩ := List.getElem?_eq_some_iff.mp hv
    rw [← hee]; exact List.drop_eq_getElem_cons hlt
  have hmlt : m < l.length := (List.getElem?_eq_some_iff.mp hv).1
  rw [hdrop, Zev] at hR
  refine ⟨show 4 < 5 by decide, ?_⟩
  refine w_st fun K2 nx2 => ?_
  show wpS _ _ _ _ _ [some (.ref b), some (.str kn), some (.ref nl), some (.ref sd), some v] _
  dsimp only [Zao, Zal, Zac, Zae]
  show CallOK _ _ _ _ [v] _ _ _
  refine Ziw G U.a (hg v (List.mem_of_getElem? hv)).kn ?_
  cases hn : Zbz v with
  | false =>
    rw [hn] at hR
    rw [← hR] at q
    exact q o' H' ib' fr'
  | true =>
  obtain ⟨k, rfl⟩ : ∃ k, v = .str k := ⟨_, Zcs hn⟩
  rw [hn, if_pos rfl] at hR
  have hkk : Zaz (.str k) = k := rfl
  rw [hkk] at hR
  refine nx2 _ _ ?_
  refine w_st fun K2 nx2 => ?_
  refine Eq.mpr (Zax) (Eq.mpr (Zak) (Eq.mpr (Zae) ?_))
  show wpX _ (.var 3) _ _ _ _
  dsimp only [Zae]
  show wcmp .In (.str k) (.ref sd) _ _
  (dsimp only [c_in, Zd4]; rw [hs'])
  show Zbh (.bool (Zb0 (seen.map fun k => (k, .bool true)) k).isSome) _ _
  (rw [Zgt]; dsimp only [Zai])
  by_cases hin : k ∈ seen
  · rw [if_pos hin] at hR
    rw [← hR] at q
    rw [decide_eq_true hin]
    exact ⟨rfl, q o' H' ib' fr'⟩
  rw [if_neg hin] at hR
  rw [decide_eq_false hin]
  refine nx2 _ _ ?_
  refine w_st fun K2 nx2 => ?_
  refine Eq.mpr (Zaj) (Eq.mpr (Zag) (Eq.mpr (tsub) (Eq.mpr (Zae) ?_)))
  show wpX _ (.var 4) _ _ _ _
  dsimp only [Zae]
  show match H' sd with | some (.dict _ _) => _ | _ => False
  rw [hs']
  refine ⟨by rw [List.length_map, hlm]; exact Nat.le_trans (Nat.le_trans (Nat.succ_le_of_lt hmlt) hll) (by decide), fun ep' => nx2 _ _ ?_⟩
  rw [Zkv hin]
  have ib3 := ib'.upN hso' (.dict ep' ((seen ++ [k]).map fun k => (k, .bool true)))
  have fr3 : Fr1 o H o' (up H' sd (.dict ep' ((seen ++ [k]).map fun k => (k, .bool true)))) := fr'.upF hsd
  have hs3 : up H' sd (.dict ep' ((seen ++ [k]).map fun k => (k, .bool true))) sd = some (.dict ep' ((seen ++ [k]).map fun k => (k, .bool true))) := Zad
  generalize up H' sd (.dict ep' ((seen ++ [k]).map fun k => (k, .bool true))) = H3 at ib3 fr3 hs3
  refine w_st fun K2 nx2 => ?_
  dsimp only [Zax, x_ao, Zat, Zak, Zae]
  refine Zco hA ib3 rfl ?_
  dsimp only [c_in]
  refine Zgu ib3 ?_
  have nextI : Zcn B k = false → I (m + 1) [some (.ref b), some (.str kn), some (.ref nl), some (.ref sd), some (.str k)] H3 := fun h => hI _ _ _ ⟨o', seen ++ [k], ep', _, rfl, ib3, fr3, hs3, hso', by rw [List.length_append, hlm]; rfl, by rw [if_neg (by rw [h]; decide)] at hR; exact hR⟩
  cases e : pAt B.pacts k with
  | none => exact nx2 _ _ (nextI (by unfold Zcn; rw [e]))
  | some w =>
  show wpAO _ true [_] _ _ _ _
  dsimp only [Za5, Zak]
  obtain ⟨a', ha', ip'⟩ := Zcr ib3.ps (Zfw (j := w.1) (q := w.2) e).1
  rw [Nat.zero_add] at ip'
  refine Zjj hA ip' (fun Q' h => ?_) ?_
  · dsimp only [Zau]
    refine Zco hA ib3 rfl ?_
    dsimp only [Zae]
    exact Zfa ib3 (j := w.1) (x := w.2) e fun a'' h'' _ => by rw [ha'] at h''; cases h''; exact h
  (dsimp only [Zag, Zci, Zai]; rw [Zny])
  have hfb : Zcn B k = (w.2.state == .fln) := by unfold Zcn; rw [e]
  cases hw : w.2.state == Sta.fln with
  | false => exact nx2 _ _ (nextI (hfb.trans hw))
  | true =>
    rw [if_pos (hfb.trans hw)] at hR
    rw [← hR] at q
    exact ⟨rfl, q o' H3 ib3 fr3⟩
omit U in
theorem Zq5 {k : Str} {pa ga ne : Addr} {i : Int} (hU : P.fns.lookup "Pact.__init__" = some BK.f_Pact___init__) (hA : c.P.attrs = BK.attrs) (h : H a = some (.inst "Pact" []))
    (q : ∀ w H', H w = none → H' a = some (.inst "Pact" [("name", .str k), ("parts", .ref pa), ("gains", .ref ga), ("needs", .ref ne), ("last", .int i), ("state", .str (Str.ofString "open")), ("inside", .ref w)]) → H' w = some (.dict 0 []) → (∀ y, y ≠ a → y ≠ w → H' y = H y) → Q .none H') : CallOK c (n + 1) true "Pact.__init__" [.ref a, .str k, .ref pa, .ref ga, .ref ne, .int i] Q E H := by
  refine G.call (F := BK.f_Pact___init__) hU rfl ?_
  have hC : ∀ n, BK.attrs.contains ("Pact", n) = true → c.P.attrs.contains ("Pact", n) = true := fun n h => by rw [hA]; exact h
  show wpSs _ _ _ _ _ [some (.ref a), some (.str k), some (.ref pa), some (.ref ga), some (.ref ne), some (.int i)] _
  refine w_st fun K nx => ?_
  dsimp only [Zaj, Zae]
  refine st_a rfl (hC _ rfl) h (by exact (show 0 ≤ 100 by decide)) (nx _ _ ?_)
  refine w_st fun K nx => ?_
  dsimp only [Zaj, Zae]
  refine st_a rfl (hC _ rfl) Zad (by exact (show 1 ≤ 100 by decide)) (nx _ _ ?_)
  refine w_st fun K nx => ?_
  dsimp only [Zaj, Zae]
  refine st_a rfl (hC _ rfl) Zad (by exact (show 2 ≤ 100 by decide)) (nx _ _ ?_)
  refine w_st fun K nx => ?_
  dsimp only [Zaj, Zae]
  refine st_a rfl (hC _ rfl) Zad (by exact (show 3 ≤ 100 by decide)) (nx _ _ ?_)
  refine w_st fun K nx => ?_
  dsimp only [Zaj, Zae]
  refine st_a rfl (hC _ rfl) Zad (by exact (show 4 ≤ 100 by decide)) (nx _ _ ?_)
  refine w_st fun K nx => ?_
  dsimp only [Zaj, Zag]
  refine st_a rfl (hC _ rfl) Zad (by exact (show 5 ≤ 100 by decide)) (nx _ _ ?_)
  refine w_st fun K nx => ?_
  dsimp only [Zaj, Zap]
  intro w hw
  have haw : a ≠ w := Zgm hw
  refine st_a rfl (hC _ rfl) (by rw [Zab haw, Zad]) (by exact (show 6 ≤ 100 by decide)) (nx _ _ ?_)
  refine q w _ (Zc3 (Zc3 (Zc3 (Zc3 (Zc3 (Zc3 hw)))))) Zad (by rw [Zab haw.symm, Zad]) fun y h1 h2 => ?_
  rw [Zab h1, Zab h2, Zab h1, Zab h1, Zab h1, Zab h1, Zab h1, Zab h1]
end
end Mine
end
section
open PySem PySem.W PyProof.Rows PySem.Spec PySem.SeqAt PySem.Calls
namespace Mine
noncomputable def sumL (l : List (Str × Int)) : Int := (l.map (·.2)).sum
noncomputable def Zdl (B : Bk) (v : AV) (pl gl : List (AV × AV)) (nl : List AV) (last : AV) : Except String Bk :=
  if Zbz v then
    if (pAt B.pacts (Zaz v)).isSome then .error "Taken" else
    match Zcf B pl with
    | .error e => .error e
    | .ok ps => match Zcf B gl with
      | .error e => .error e
      | .ok gs => if sumL ps ≠ sumL gs then .error "Uneven" else
        match Zd3 B (Zaz v) nl with
        | .error e => .error e
        | .ok _ => if Zbv last = true ∧ ¬ Zc9 last < B.day then .ok { B with pacts := B.pacts ++ [⟨Zaz v, ps, gs, nl.map Zaz, Zc9 last, .opn, []⟩] } else .error "NoDay"
  else .error "NoName"
noncomputable def snd2 (H : Zaa) : AV → Option AV
  | .ref t => (match H t with | some (.tuple [_, w]) => some w | _ => none)
  | _ => none
theorem Zip {H : Zaa} {t : Addr} {u w : AV} (h : H t = some (.tuple [u, w])) : snd2 H (.ref t) = some w := by
  show (match H t with | some (.tuple [_, w]) => some w | _ => none) = _
  rw [h]
section
variable {o o' : Addr → Option Role} {H H' H0 : Zaa}
theorem Fr1.ext (h : Ext H H') : Fr1 o H o H' := ⟨fun a v e k => ⟨h a v e, k⟩, fun a e => h.none e⟩
theorem IsBook.ext {b f s p : Addr} {as : List Addr} {B : Bk} (ib : IsBook o H b f s p as B) (h : Ext H H') : IsBook o H' b f s p as B := ib.congr fun a r v _ hr hv _ => ⟨hr, h a v hv⟩
theorem pairsU.ext {ts : List Addr} {l : List (Str × Int)} (h : pairsU H0 o H ts l) (hE : Ext H H') : pairsU H0 o H' ts l := h.keep fun t v _ h1 h2 => ⟨h1, hE _ _ h2⟩
theorem Zha : ∀ {ts : List Addr} {l : List (Str × Int)}, pairsU H0 o H ts l → ((ts.map AV.ref).filterMap (snd2 H)) = (l.map (·.2)).map AV.int
  | [], [], _ => rfl
  | t :: ts, e :: l, h => by
    rw [List.map_cons, List.filterMap_cons, List.map_cons, List.map_cons, ← Zha h.2]
    rw [Zip h.1.2.2]
  | [], _ :: _, h => h.elim
  | _ :: _, [], h => h.elim
theorem Zh0 : ∀ {ts : List Addr} {l : List (Str × Int)} {y : AV}, pairsU H0 o H ts l → y ∈ ts.map AV.ref → ∃ t k i, y = .ref t ∧ H t = some (.tuple [.str k, .int i])
  | t :: ts, e :: l, y, h, hy => by
    rcases List.mem_cons.mp hy with rfl | hy
    · exact ⟨t, _, _, rfl, h.1.2.2⟩
    · exact Zh0 h.2 hy
  | [], [], _, _, hy => by cases hy
  | [], _ :: _, _, h, _ => h.elim
  | _ :: _, [], _, h, _ => h.elim
theorem Zc6 : ∀ {ts : List Addr} {l : List (Str × Int)} {t : Addr}, pairsU H0 o H ts l → t ∈ ts → H0 t = none ∧ o t = none ∧ ∃ v, H t = some (.tuple v)
  | t :: ts, e :: l, y, h, hy => by
    rcases List.mem_cons.mp hy with rfl | hy
    · exact ⟨h.1.1, h.1.2.1, _, h.1.2.2⟩
    · exact Zc6 h.2 hy
  | [], [], _, _, hy => by cases hy
  | [], _ :: _, _, h, _ => h.elim
  | _ :: _, [], _, h, _ => h.elim
theorem pairsU.own (hk : ∀ t v, t ∈ ts → H t = some (.tuple v) → o' t = some .data ∧ H' t = some (.tuple v)) {l : List (Str × Int)} (h : pairsU H0 o H ts l) : pairsAV o' H' ts l := by
  induction ts generalizing l with
  | nil => cases l with
    | nil => trivial
    | cons => exact h.elim
  | cons t ts ih => cases l with
    | nil => exact h.elim
    | cons e l =>
      have := hk t _ List.mem_cons_self h.1.2.2
      exact ⟨this.1, this.2, ih (fun t v ht => hk t v (List.mem_cons_of_mem _ ht)) h.2⟩
theorem Zhb : ∀ {i : Nat} {as : List Addr} {ps : List Pc} {a : Addr} {x : Pc}, pactsAt o H i as ps → IsPact o H (i + ps.length) a x → pactsAt o H i (as ++ [a]) (ps ++ [x]) ∧ dP (ps ++ [x]) (as ++ [a]) = dP ps as ++ [(x.name, .ref a)]
  | _, [], [], a, x, _, hx => ⟨⟨hx, trivial⟩, rfl⟩
  | i, a' :: as, q :: qs, a, x, h, hx => by
    obtain ⟨h1, h2⟩ := Zhb (i := i + 1) (a := a) (x := x) h.2 (by rw [show i + 1 + qs.length = i + (q :: qs).length by simp; lia]; exact hx)
    exact ⟨⟨h.1, h1⟩, by show _ :: dP (qs ++ [x]) (as ++ [a]) = _; rw [h2]; rfl⟩
  | _, [], _ :: _, _, _, h, _ => h.elim
  | _, _ :: _, [], _, _, h, _ => h.elim
end
section
variable {c : Cx} {P : Pg} (G : Gd c P) (U : HasP P) {n : Nat} {md : Bool} {Q : AV → Zaa → Prop} {E : String → Zaa → Prop} {H : Zaa} {o : Addr → Option Role} {b f s p a : Addr} {as : List Addr} {B : Bk} {j : Nat} {x : Pc}
theorem Zja {g : Gx} {V : VV} {i : Nat} {z : Addr} {ts : List Addr} {l : List (Str × Int)} {H0 : Zaa} (hmd : g.md = true) (hl9 : V.length = 9) (hV : V[i]? = some (some (.ref z))) (hz : H z = some (.list (ts.map .ref))) (hu : pairsU H0 o H ts l) (hl : l.length ≤ 1000)
    (q : ∀ H', Ext H H' → Q (.int (sumL l)) H') : wpX g (.prim .sum [.comp (.sub (.var 9) (.lit (.int 1))) 1 false (.var i) none]) V Q E H := by
  (dsimp only [Zar, Zac, Zbd, Zae]; rw [hV])
  refine ⟨hmd, ?_⟩
  refine Zd9 (xs := ts.map .ref) (by simp only [Zan, hz]) (by rw [List.length_map, Zfv hu]; exact Nat.le_trans hl (by decide)) (snd2 H) (fun y hy H' hE nx hnx => ?_) fun a H' hE ha => ?_
  · obtain ⟨t, k, w, rfl, ht⟩ := Zh0 hu hy
    (refine Eq.mpr (if_neg (by decide)) ?_; dsimp only [Zbp]; refine Eq.mpr (if_pos rfl) ?_; dsimp only [Zau, Zae]; rw [List.getElem?_append_right (by lia), hl9])
    show wpX g (.lit (.int 1)) _ _ _ _
    dsimp only [Zag]
    refine tup1 (hE _ _ ht) ?_
    have := hnx H' .refl
    rw [Zip ht] at this
    exact this
  · (dsimp only [Zaf, Zhd]; rw [hmd, Zad])
    refine ⟨rfl, l.map (·.2), Zha hu, ?_⟩
    exact q _ (hE.new ha)
theorem Zm0 {B : Bk} {l : List (AV × AV)} {acc r : List (Str × Int)} (h : Zdg B l acc = .ok r) : r.length = acc.length + l.length := by
  induction l generalizing acc with
  | nil => cases h; rfl
  | cons e l ih =>
    have := ih (Zo8 (Zpa (Zo8 h).2).2).2
    rw [this, List.length_append, Nat.add_assoc]
    show acc.length + (1 + l.length) = acc.length + (l.length + 1)
    rw [Nat.add_comm 1]
set_option tactic.hygienic true in
theorem Zh2 {B : Bk} {l : List (AV × AV)} {r : List (Str × Int)} (h : Zcf B l = .ok r) : r.length ≤ 1000 := by
  unfold Zcf at h
  split at h
  · rename_i hh
    rw [Zm0 h]; simp; lia
  · cases h
theorem Znv {H0 H6 : Zaa} {o0 o : Addr → Option Role} {H : Zaa} {b f s p a w za zb zn : Addr} {as ta tb : List Addr} {B : Bk} {k : Str} {ps gs : List (Str × Int)} {ns : List Str} {i : Int} (ib : IsBook o H b f s p as B) (fr : Fr1 o0 H0 o H) (nza : H0 za = none) (nzb : H0 zb = none) (nzn : H0 zn = none) (pa : pairsU H0 o H ta ps) (pb : pairsU H0 o H tb gs) (ha : H a = none) (hw : H w = none) (haw : a ≠ w)
    (hia : H6 a = some (.inst "Pact" [("name", .str k), ("parts", .ref za), ("gains", .ref zb), ("needs", .ref zn), ("last", .int i), ("state", .str (Str.ofString "open")), ("inside", .ref w)])) (hiw : H6 w = some (.dict 0 [])) (hold : ∀ y v, H y = some v → H6 y = some v)
    (hza : H za = some (.list (ta.map .ref))) (hzao : o za = none) (hzb : H zb = some (.list (tb.map .ref))) (hzbo : o zb = none) (hzn : H zn = some (.list (txs ns))) (hzno : o zn = none) (ep : Nat) :
    ∃ o' : Addr → Option Role, IsBook o' (up H6 p (.dict ep (dP B.pacts as ++ [(k, .ref a)]))) b f s p (as ++ [a]) { B with pacts := B.pacts ++ [⟨k, ps, gs, ns, i, .opn, []⟩] } ∧ Fr1 o0 H0 o' (up H6 p (.dict ep (dP B.pacts as ++ [(k, .ref a)]))) := by
  obtain ⟨e1, hf⟩ := ib.hf
  obtain ⟨e2, hs⟩ := ib.hs
  obtain ⟨e3, hp⟩ := ib.hp
  have na : ∀ {y v}, H y = some v → y ≠ a := fun h e => by rw [e, ha] at h; cases h
  have nw : ∀ {y v}, H y = some v → y ≠ w := fun h e => by rw [e, hw] at h; cases h
  have hd : ∃ o' : Addr → Option Role, o' a = some (.pact B.pacts.length) ∧ o' w = some (.inside B.pacts.length) ∧ (∀ y v, H y = some v → (y = za ∨ y = zb ∨ y = zn ∨ y ∈ ta ∨ y ∈ tb) → o' y = some .data) ∧ (∀ y v, H y = some v → ¬ (y = za ∨ y = zb ∨ y = zn ∨ y ∈ ta ∨ y ∈ tb) → o' y = o y) := by
    refine ⟨fun y => if y = a then some (.pact B.pacts.length) else if y = w then some (.inside B.pacts.length) else if y = za ∨ y = zb ∨ y = zn ∨ y ∈ ta ∨ y ∈ tb then some .data else o y, if_pos rfl, (if_neg haw.symm).trans (if_pos rfl), fun y v h1 h2 => ?_, fun y v h1 h2 => ?_⟩
    · exact (if_neg (na h1)).trans ((if_neg (nw h1)).trans (if_pos h2))
    · exact (if_neg (na h1)).trans ((if_neg (nw h1)).trans (if_neg h2))
  obtain ⟨o', oa, ow, od, oo⟩ := hd
  have nset : ∀ {y v r}, H y = some v → o y = some r → ¬ (y = za ∨ y = zb ∨ y = zn ∨ y ∈ ta ∨ y ∈ tb) := fun {y v r} h1 h2 h => by
    rcases h with h | h | h | h | h
    · rw [h, hzao] at h2; cases h2
    · rw [h, hzbo] at h2; cases h2
    · rw [h, hzno] at h2; cases h2
    · rw [(Zc6 pa h).2.1] at h2; cases h2
    · rw [(Zc6 pb h).2.1] at h2; cases h2
  have keep : ∀ {y v r}, H y = some v → o y = some r → y ≠ p → o' y = some r ∧ up H6 p (.dict ep (dP B.pacts as ++ [(k, .ref a)])) y = some v := fun {y v r} h1 h2 h3 => ⟨(oo y v h1 (nset h1 h2)).trans h2, by rw [Zab h3]; exact hold y v h1⟩
  have np : ∀ {y v}, H y = some v → o y = none → y ≠ p := fun h1 h2 e => by rw [e, ib.op] at h2; cases h2
  have kd : ∀ {y v}, H y = some v → o y = none → (y = za ∨ y = zb ∨ y = zn ∨ y ∈ ta ∨ y ∈ tb) → o' y = some .data ∧ up H6 p (.dict ep (dP B.pacts as ++ [(k, .ref a)])) y = some v := fun {y v} h1 h2 h3 => ⟨od y v h1 h3, by rw [Zab (np h1 h2)]; exact hold y v h1⟩
  have pap : p ≠ a := na hp
  have pwp : p ≠ w := nw hp
  have ip : IsPact o' (up H6 p (.dict ep (dP B.pacts as ++ [(k, .ref a)]))) (0 + B.pacts.length) a ⟨k, ps, gs, ns, i, .opn, []⟩ := by
    rw [Nat.zero_add]
    refine ⟨oa, za, zb, zn, w, 0, by rw [Zab pap.symm]; exact hia, ?_, ?_, ?_, ?_, ow, by rw [Zab pwp.symm]; exact hiw⟩
    · exact ⟨(kd hza hzao (.inl rfl)).1, ta, (kd hza hzao (.inl rfl)).2, pa.own fun t v ht h => kd h (Zc6 pa ht).2.1 (.inr (.inr (.inr (.inl ht))))⟩
    · exact ⟨(kd hzb hzbo (.inr (.inl rfl))).1, tb, (kd hzb hzbo (.inr (.inl rfl))).2, pb.own fun t v ht h => kd h (Zc6 pb ht).2.1 (.inr (.inr (.inr (.inr ht))))⟩
    · exact (kd hzn hzno (.inr (.inr (.inl rfl)))).1
    · exact (kd hzn hzno (.inr (.inr (.inl rfl)))).2
  have nb : b ≠ p := Zby ib.ob ib.op (by intro h; cases h)
  have nf : f ≠ p := Zby ib.of ib.op (by intro h; cases h)
  have ns' : s ≠ p := Zby ib.os ib.op (by intro h; cases h)
  have psk : pactsAt o' (up H6 p (.dict ep (dP B.pacts as ++ [(k, .ref a)]))) 0 as B.pacts := ib.ps.congr (P := Role.isP) (fun y r v hr h1 h2 _ => keep h2 h1 (fun e => by rw [e, ib.op] at h1; cases h1; exact hr)) trivial fun _ _ => ⟨trivial, trivial⟩
  obtain ⟨p1, p2⟩ := Zhb psk ip
  refine ⟨o', ⟨(keep ib.hb ib.ob nb).1, (keep hf ib.of nf).1, (keep hs ib.os ns').1, (oo p _ hp (nset hp ib.op)).trans ib.op, (keep ib.hb ib.ob nb).2, ⟨e1, (keep hf ib.of nf).2⟩, ⟨e2, (keep hs ib.os ns').2⟩, ⟨ep, ?_⟩, p1⟩, ⟨fun y v h1 h2 => ?_, fun y h => ?_⟩⟩
  · show up H6 p _ p = some (.dict ep (dP (B.pacts ++ [_]) (as ++ [a])))
    rw [Zad, p2]
  · obtain ⟨h3, h4⟩ := fr.old y v h1 h2
    refine ⟨by rw [Zab (np h3 h4)]; exact hold y v h3, (oo y v h3 fun h => ?_).trans h4⟩
    rcases h with h | h | h | h | h
    · rw [h, nza] at h1; cases h1
    · rw [h, nzb] at h1; cases h1
    · rw [h, nzn] at h1; cases h1
    · rw [(Zc6 pa h).1] at h1; cases h1
    · rw [(Zc6 pb h).1] at h1; cases h1
  · refine fr.gr y ?_
    cases hy : H y with
    | none => rfl
    | some v => have := Zc3 h; rw [hold y v hy] at this; cases this
include G U
theorem Zqr {v last : AV} {pl gl nl : Addr} {ts us : List Addr} {pL gL : List (AV × AV)} {nL : List AV} (hU : P.fns.lookup "Book.tell" = some BK.f_Book_tell) (hU1 : P.fns.lookup "Book.pairs_of" = some BK.f_Book_pairs_of) (hU2 : P.fns.lookup "Book.needs_of" = some BK.f_Book_needs_of) (hU3 : P.fns.lookup "Pact.__init__" = some BK.f_Pact___init__) (hcl : c.P.classes.contains "Pact" = true)
    (ib : IsBook o H b f s p as B) (ok : BkOK B) (kv : Kv v) (kl : Kv last) (hp : H pl = some (.list (ts.map .ref))) (hpo : o pl = none) (hpg : Zfd o H ts pL) (hg : H gl = some (.list (us.map .ref))) (hgo : o gl = none) (hgg : Zfd o H us gL) (hn : H nl = some (.list nL)) (hno : o nl = none) (hng : ∀ v ∈ nL, Kv v)
    (l1 : pL.length ≤ 1000) (l2 : gL.length ≤ 1000) (l3 : nL.length ≤ 1000)
    (q : match Zdl B v pL gL nL last with | .ok B' => (∀ o' H' as', IsBook o' H' b f s p as' B' → Fr1 o H o' H' → Q .none H') | .error cl => ∀ o' H', IsBook o' H' b f s p as B → Fr1 o H o' H' → E cl H') : CallOK c (n + 4) true "Book.tell" [.ref b, v, .ref pl, .ref gl, .ref nl, last] Q E H := by
  refine G.call (F := BK.f_Book_tell) hU rfl ?_
  have hA : c.P.attrs = BK.attrs := by rw [G.hP, U.a.attrs]
  have hM : c.P.meths = BK.meths := by rw [G.hP, U.a.meths]
  show wpSs _ _ _ _ _ [some (.ref b), some v, some (.ref pl), some (.ref gl), some (.ref nl), some last, none, none, none] _
  unfold Zdl at q
  refine w_st fun K nx => ?_
  dsimp only [Zao, Zal, Zac, Zae]
  show CallOK _ _ _ _ [v] _ _ _
  refine Ziw G U.a kv.kn ?_
  cases hnb : Zbz v with
  | false => rw [hnb] at q; exact q o H ib .refl
  | true =>
  obtain ⟨k, rfl⟩ : ∃ k, v = .str k := ⟨_, Zcs hnb⟩
  have hkk : Zaz (.str k) = k := rfl
  rw [hnb, if_pos rfl, hkk] at q
  refine nx _ _ ?_
  refine w_st fun K nx => ?_
  dsimp only [Zax, Zak, Zae]
  refine Zco hA ib rfl ?_
  dsimp only [c_in]
  refine Zgu ib ?_
  cases e : pAt B.pacts k with
  | some w =>
    rw [e] at q
    exact ⟨rfl, q o H ib .refl⟩
  | none =>
  rw [e] at q
  rw [if_neg (by decide)] at q
  refine nx _ _ ?_
  refine w_st fun K nx => ?_
  dsimp only [Zaj]
  refine Zbk hM (by decide) (by decide) ib rfl ?_
  dsimp only [Zac, Zae]
  refine Zg8 G U hU1 ib hp hpo hpg l1 ?_
  cases e1 : Zcf B pL with
  | error cl => rw [e1] at q; exact q
  | ok ps =>
  rw [e1] at q
  intro za ta o1 H1 hza hzo1 hz1 pu1 ib1 f1
  refine ⟨show 6 < 9 by decide, nx _ _ ?_⟩
  refine w_st fun K nx => ?_
  dsimp only [Zaj]
  refine Zbk hM (by decide) (by decide) ib1 rfl ?_
  dsimp only [Zac, Zae]
  obtain ⟨hg1, hgo1⟩ := f1.old _ _ hg hgo
  have hgg1 : Zfd o1 H1 us gL := by
    clear q nx
    revert hgg
    generalize us = us
    generalize gL = gL
    intro hgg
    induction us generalizing gL with
    | nil => cases gL with
      | nil => trivial
      | cons => exact hgg.elim
    | cons t r ih => cases gL with
      | nil => exact hgg.elim
      | cons g gs => exact ⟨⟨(f1.old _ _ hgg.1.2.1 hgg.1.1).2, (f1.old _ _ hgg.1.2.1 hgg.1.1).1, hgg.1.2.2⟩, ih gs hgg.2⟩
  refine Zg8 G U hU1 ib1 hg1 hgo1 hgg1 l2 ?_
  cases e2 : Zcf B gL with
  | error cl =>
    rw [e2] at q
    exact fun o' H' ib' f' => q o' H' ib' (f1.trans f')
  | ok gs =>
  rw [e2] at q
  intro zb tb o2 H2 hzb hzo2 hz2 pu2 ib2 f2
  refine ⟨show 7 < 9 by decide, nx _ _ ?_⟩
  obtain ⟨hz1', hzo1'⟩ := f2.old _ _ hz1 hzo1
  have pu1' : pairsU H o2 H2 ta ps := pu1.keep fun t v _ h1 h2 => ⟨(f2.old _ _ h2 h1).2, (f2.old _ _ h2 h1).1⟩
  have pu2' : pairsU H o2 H2 tb gs := by
    clear q nx
    revert pu2
    generalize tb = tb
    generalize gs = gs
    intro h
    induction tb generalizing gs with
    | nil => cases gs with
      | nil => trivial
      | cons => exact h.elim
    | cons t r ih => cases gs with
      | nil => exact h.elim
      | cons g gs => exact ⟨⟨f1.gr _ h.1.1, h.1.2⟩, ih gs h.2⟩
  have fr2 := f1.trans f2
  have lps : ps.length ≤ 1000 := Zh2 e1
  have lgs : gs.length ≤ 1000 := Zh2 e2
  refine w_st fun K nx => ?_
  show wpS _ _ _ _ _ [some (.ref b), some (.str k), some (.ref pl), some (.ref gl), some (.ref nl), some last, some (.ref za), some (.ref zb), none] _
  dsimp only [Zax, Zak]
  refine Zja rfl rfl rfl hz1' pu1' lps fun H3 hE3 => ?_
  refine Zja rfl rfl rfl (hE3 _ _ hz2) (pu2'.ext hE3) lgs fun H4 hE4 => ?_
  dsimp only [c_ne, Zai]
  have hE := hE3.trans hE4
  have ib4 := ib2.ext hE
  have fr4 : Fr1 o H o2 H4 := fr2.trans (.ext hE)
  have pa4' := pu1'.ext hE
  have pb4' := pu2'.ext hE
  have hza4 := hE _ _ hz1'
  have hzb4 := hE _ _ hz2
  dsimp only at q
  by_cases hsum : sumL ps = sumL gs
  case neg =>
    rw [if_pos hsum] at q
    refine Eq.mpr (if_pos (by simpa using hsum)) ?_
    exact ⟨rfl, q o2 H4 ib4 fr4⟩
  rw [if_neg (fun h => h hsum)] at q
  refine Eq.mpr (if_neg (by simpa using hsum)) ?_
  refine nx _ _ ?_
  refine w_st fun K nx => ?_
  dsimp only [Zaj]
  refine Zbk hM (by decide) (by decide) ib4 rfl ?_
  refine Eq.mpr (Zac) (Eq.mpr (Zae) ?_)
  show wpXs _ [.var 4] _ _ _ _
  dsimp only [Zac, Zae]
  obtain ⟨hn4, hno4⟩ := fr4.old _ _ hn hno
  refine Zk4 G U hU2 ib4 hn4 hno4 hng l3 ?_
  cases e3 : Zd3 B k nL with
  | error cl =>
    rw [e3] at q
    exact fun o' H' ib' f' => q o' H' ib' (fr4.trans f')
  | ok u =>
  rw [e3] at q
  dsimp only at q
  intro zn o5 H5 hzn hzno hzn5 ib5 f5
  have fr5 := fr4.trans f5
  obtain ⟨hza5, hzao5⟩ := f5.old _ _ hza4 hzo1'
  obtain ⟨hzb5, hzbo5⟩ := f5.old _ _ hzb4 hzo2
  have pa5 : pairsU H o5 H5 ta ps := pa4'.keep fun t v _ h1 h2 => ⟨(f5.old _ _ h2 h1).2, (f5.old _ _ h2 h1).1⟩
  have pb5 : pairsU H o5 H5 tb gs := pb4'.keep fun t v _ h1 h2 => ⟨(f5.old _ _ h2 h1).2, (f5.old _ _ h2 h1).1⟩
  refine ⟨show 8 < 9 by decide, nx _ _ ?_⟩
  have hnt : nL = txs (nL.map Zaz) := by
    unfold Zd3 at e3
    split at e3
    · exact Zh9 e3
    · cases e3
  refine w_st fun K nx => ?_
  show wpS _ _ _ _ _ [some (.ref b), some (.str k), some (.ref pl), some (.ref gl), some (.ref nl), some last, some (.ref za), some (.ref zb), some (.ref zn)] _
  dsimp only [Zax, x_ao, Zat, Za9, Zal, Zac, Zae]
  show CallOK _ _ _ _ [last] _ _ _
  refine Ze5 G U.a kl.kn ?_
  cases hwl : Zbv last with
  | false =>
    rw [if_neg (fun h => by rw [hwl] at h; cases h.1)] at q
    exact ⟨rfl, q o5 H5 ib5 fr5⟩
  | true =>
  obtain ⟨i, rfl⟩ : ∃ i, last = .int i := by cases last <;> first | exact ⟨_, rfl⟩ | cases hwl
  (dsimp only [Zai]; refine Eq.mpr (if_pos (show (!true) = false from rfl)) ?_; dsimp only [Za5, Zak, Zae])
  refine Zp9 hA ib5 rfl ?_
  dsimp only [c_lt, Zai]
  by_cases hd : i < B.day
  · rw [if_neg (fun h => h.2 hd)] at q
    rw [decide_eq_true hd]
    exact ⟨rfl, q o5 H5 ib5 fr5⟩
  rw [if_pos ⟨hwl, hd⟩] at q
  rw [decide_eq_false hd]
  refine nx _ _ ?_
  refine w_st fun K nx => ?_
  dsimp only [Zaj, Zch]
  show ∀ a, H5 a = none → CallOK _ _ _ _ [.ref a, .str k, .ref za, .ref zb, .ref zn, .int i] _ _ _
  intro a ha
  refine Zq5 G hU3 hA Zad fun w H6 hw hia hiw hrest => ⟨rfl, ?_⟩
  have haw : a ≠ w := Zgm hw
  have hw5 : H5 w = none := Zc3 hw
  have hold : ∀ y v, H5 y = some v → H6 y = some v := fun y v h => by
    have h1 : y ≠ a := fun z => by rw [z, ha] at h; cases h
    have h2 : y ≠ w := fun z => by rw [z, hw5] at h; cases h
    rw [hrest y h1 h2, Zab h1]; exact h
  obtain ⟨ep, hpd⟩ := ib5.hp
  have hl5 := Zf6 ib5.ps
  dsimp only [tsub]
  have ib6 : IsBook o5 H6 b f s p as B := ib5.ext hold
  refine Zco hA ib6 rfl ?_
  dsimp only [Zae]
  show match H6 p with | some (.dict _ _) => _ | _ => False
  rw [hold _ _ hpd]
  refine ⟨by have h1 := congrArg List.length hl5.1; rw [List.length_map, List.length_map, hl5.2] at h1; rw [h1]; exact Nat.le_trans ok.len (by decide), fun ep' => nx _ _ ?_⟩
  have hnone : Zb0 (dP B.pacts as) k = none := by rw [Zeg ib5.ps, e]; rfl
  have hput : putS (dP B.pacts as) k (.ref a) = dP B.pacts as ++ [(k, .ref a)] := by unfold putS; rw [hnone]; rfl
  rw [hput]
  obtain ⟨o', ib', fr'⟩ := Znv ib5 fr5 hza (f1.gr _ hzb) (fr4.gr _ hzn) pa5 pb5 ha hw5 haw hia hiw hold hza5 hzao5 hzb5 hzbo5 (hnt ▸ hzn5) hzno ep'
  exact q o' _ (as ++ [a]) ib' fr'
end
end Mine
end
section
open PySem PySem.W PyProof.Rows PySem.Spec PySem.SeqAt PySem.Calls
namespace Mine
noncomputable def Zhr (ks : List Str) (k : Str) : List Str := if k ∈ ks then ks else ks ++ [k]
theorem Zl5 {es : List (Str × AV)} {k : Str} : (Zb0 es k).isSome = decide (k ∈ es.map (·.1)) := by
  unfold Zb0
  rw [Option.isSome_map, Bool.eq_iff_iff, List.find?_isSome]
  simp
theorem Zq3 {es : List (Str × AV)} {k : Str} {v : AV} : (putS es k v).map (·.1) = Zhr (es.map (·.1)) k := by
  unfold putS Zhr
  rw [Zl5]
  by_cases h : k ∈ es.map (·.1)
  · simp only [h, decide_true, if_true, List.map_map]
    apply List.map_congr_left
    intro e _
    simp only [Function.comp]
    split <;> simp_all
  · simp only [h, decide_false, if_false, Bool.false_eq_true, List.map_append, List.map_cons, List.map_nil]
theorem Zoa {es : List (Str × AV)} {k : Str} {v : AV} : (putS es k v).length ≤ es.length + 1 := by
  unfold putS; split <;> simp
set_option tactic.hygienic true in
theorem Zna {ks : List Str} {k x : Str} : x ∈ Zhr ks k ↔ x ∈ ks ∨ x = k := by
  unfold Zhr
  split
  · constructor
    · exact .inl
    · rintro (h | rfl) <;> assumption
  · simp
noncomputable def Zic (l : List Str) : List Str := l.foldl Zhr []
theorem Zk9 {l : List Str} {x : Str} : Zic (l ++ [x]) = Zhr (Zic l) x := by simp [Zic]
theorem Zo0 {l : List Str} : ∀ {ks : List Str} {x : Str}, x ∈ l.foldl Zhr ks ↔ x ∈ ks ∨ x ∈ l := by
  induction l with
  | nil => simp
  | cons t r ih =>
    intro ks x
    rw [List.foldl_cons, ih, Zna, List.mem_cons]
    constructor
    · rintro ((h | h) | h)
      · exact .inl h
      · exact .inr (.inl h)
      · exact .inr (.inr h)
    · rintro (h | h | h)
      · exact .inl (.inl h)
      · exact .inl (.inr h)
      · exact .inr h
theorem Zm9 {l : List Str} {x : Str} : x ∈ Zic l ↔ x ∈ l := by unfold Zic; rw [Zo0]; simp
section
variable {c : Cx} {P : Pg} (G : Gd c P) {n : Nat} {md : Bool} {Q : AV → Zaa → Prop} {E : String → Zaa → Prop} {H : Zaa}
noncomputable def TabIs (H : Zaa) (z : Addr) (l : List Str) : Prop := ∃ ep es, H z = some (.dict ep es) ∧ es.length ≤ l.length ∧ ∀ k, (Zb0 es k).isSome = decide (k ∈ l)
theorem TabIs.ext {H H' : Zaa} {z : Addr} {l : List Str} (h : TabIs H z l) (e : Ext H H') : TabIs H' z l := by
  obtain ⟨ep, es, h1, h2⟩ := h; exact ⟨ep, es, e _ _ h1, h2⟩
theorem Znq {no : Bool} {x : Str} {a : Addr} {l : List Str} (h : TabIs H a l) (q : Q (.bool (decide (x ∈ l) != no)) H) : win no (.str x) (.ref a) Q H := by
  obtain ⟨ep, es, h1, h2, h3⟩ := h
  refine Zqm h1 ?_
  rw [h3]; exact q
include G in
theorem Zim (hf : P.fns.lookup "table_of" = some BK.f_table_of) {a : Addr} {l : List Str} (ha : H a = some (.list (txs l))) (hl : l.length ≤ 1000)
    (q : ∀ z H', Ext H H' → H z = none → TabIs H' z l → Q (.ref z) H') : CallOK c (n + 1) true "table_of" [.ref a] Q E H := by
  refine G.call (F := BK.f_table_of) hf rfl ?_
  show wpSs _ _ _ _ _ [some (.ref a), none, none] _
  refine w_st fun K nx => ?_
  dsimp only [Zaj, Zap]
  intro z hz
  refine ⟨show 1 < 3 by decide, nx _ _ ?_⟩
  refine w_st fun K nx => ?_
  dsimp only [Zba, Zae]
  refine ⟨rfl, ?_⟩
  show WFor _ _ (.ref a) _ _
  refine Zcw (xs := txs l) (by simp only [Zan]; rw [Zgj ha hz]) (fun k V' H' => ∃ ep es x, V' = [some (.ref a), some (.ref z), x] ∧ Ext H H' ∧ H' z = some (.dict ep es) ∧ es.length ≤ k ∧ es.map (·.1) = Zic (l.take k))
    ⟨0, [], none, rfl, Ext.refl.own hz, Zad, Nat.le_refl _, rfl⟩ ?_
  rintro I hI k V' H' ⟨ep, es, x, rfl, hE, hz', hlen, hk⟩
  refine ⟨by show H' a = _; rw [hE a _ ha, Zgj ha hz], fun hkl => ?_, fun y hy => ?_⟩
  · rw [hkl, Za2, List.take_length] at hk
    rw [hkl, Za2] at hlen
    exact nx _ _ (q z H' hE hz ⟨ep, es, hz', hlen, fun key => by rw [Zl5, hk]; simp [Zm9]⟩)
  · obtain ⟨s, rfl, hs⟩ := Zeb hy
    have hkl : k < l.length := (List.getElem?_eq_some_iff.mp hs).1
    refine ⟨show 2 < 3 by decide, ?_⟩
    refine w_st fun K2 nx2 => ?_
    show wpS _ _ _ _ _ [some (.ref a), some (.ref z), some (.str s)] _
    refine Eq.mpr (Zaj) (Eq.mpr (Zag) (Eq.mpr (tsub) (Eq.mpr (Zae) ?_)))
    show wpX _ (.var 2) _ _ _ _
    dsimp only [Zae]
    show match H' z with | some (.dict _ _) => _ | _ => False
    rw [hz']
    refine ⟨Nat.le_trans (show es.length ≤ 1000 by lia) (by decide), fun ep' => nx2 _ _ (hI _ _ _ ⟨ep', putS es s (.bool true), _, rfl, hE.own hz, Zad, ?_, ?_⟩)⟩
    · have := Zoa (es := es) (k := s) (v := .bool true); lia
    · rw [Zq3, hk, Zbw hs, Zk9]
noncomputable def NeedsAt (H : Zaa) (d : Addr) (nd : Str → List Str) (l : List Str) : Prop := ∃ ep es, H d = some (.dict ep es) ∧ ∀ x ∈ l, ∃ r, Zb0 es x = some (.ref r) ∧ H r = some (.list (txs (nd x))) ∧ (nd x).length ≤ 1000
theorem NeedsAt.ext {H H' : Zaa} {z : Addr} {l : List Str} {nd : Str → List Str} (h : NeedsAt H z nd l) (e : Ext H H') : NeedsAt H' z nd l := by
  obtain ⟨ep, es, h1, h2⟩ := h
  refine ⟨ep, es, e _ _ h1, fun x hx => ?_⟩
  obtain ⟨r, h3, h4, h5⟩ := h2 x hx
  exact ⟨r, h3, e _ _ h4, h5⟩
theorem NeedsAt.sub {H : Zaa} {z : Addr} {l l' : List Str} {nd : Str → List Str} (h : NeedsAt H z nd l) (e : ∀ x ∈ l', x ∈ l) : NeedsAt H z nd l' := by
  obtain ⟨ep, es, h1, h2⟩ := h
  exact ⟨ep, es, h1, fun x hx => h2 x (e x hx)⟩
noncomputable def metB (nd : Str → List Str) (K D : List Str) (x : Str) : Bool := (nd x).all fun o => decide (o ∈ K) || decide (o ∈ D)
include G in
theorem Zsu (hf : P.fns.lookup "are_met" = some BK.f_are_met) {a d kt dt : Addr} {l K D : List Str} {nd : Str → List Str} (ha : H a = some (.list (txs l))) (hd : NeedsAt H d nd l) (hk : TabIs H kt K) (ht : TabIs H dt D) (hl : l.length ≤ 1000)
    (q : ∀ z H', Ext H H' → H z = none → H' z = some (.list (txs (l.filter (metB nd K D)))) → Q (.ref z) H') : CallOK c (n + 1) true "are_met" [.ref a, .ref d, .ref kt, .ref dt] Q E H := by
  refine G.call (F := BK.f_are_met) hf rfl ?_
  show wpSs _ _ _ _ _ [some (.ref a), some (.ref d), some (.ref kt), some (.ref dt), none, none] _
  refine w_st fun KK nx => ?_
  dsimp only [Zaj, Zam, Zaf]
  intro z hz
  refine ⟨show 4 < 6 by decide, nx _ _ ?_⟩
  refine w_st fun KK nx => ?_
  dsimp only [Zba, Zae]
  refine ⟨rfl, ?_⟩
  show WFor _ _ (.ref a) _ _
  refine Zcw (xs := txs l) (by simp only [Zan]; rw [Zgj ha hz]) (fun k V' H' => ∃ x, V' = [some (.ref a), some (.ref d), some (.ref kt), some (.ref dt), some (.ref z), x] ∧ Ext H H' ∧ H' z = some (.list (txs ((l.take k).filter (metB nd K D)))))
    ⟨none, rfl, Ext.refl.own hz, Zad⟩ ?_
  rintro I hI k V' H' ⟨x, rfl, hE, hz'⟩
  refine ⟨by show H' a = _; rw [hE a _ ha, Zgj ha hz], fun hkl => ?_, fun y hy => ?_⟩
  · rw [hkl, Za2, List.take_length] at hz'
    exact nx _ _ (q z H' hE hz hz')
  · obtain ⟨s, rfl, hs⟩ := Zeb hy
    have hkl : k < l.length := (List.getElem?_eq_some_iff.mp hs).1
    obtain ⟨ep, es, hd1, hd2⟩ := hd.ext hE
    obtain ⟨r, hr1, hr2, hr3⟩ := hd2 s (List.mem_of_getElem? hs)
    refine ⟨show 5 < 6 by decide, ?_⟩
    refine w_st fun K2 nx2 => ?_
    show wpS _ _ _ _ _ [some (.ref a), some (.ref d), some (.ref kt), some (.ref dt), some (.ref z), some (.str s)] _
    dsimp only [Zax, Zak, Zbd]
    refine ⟨rfl, ?_⟩
    refine Eq.mpr (Zau) (Eq.mpr (Zae) ?_)
    show wpX _ (.var 5) _ _ _ _
    dsimp only [Zae]
    show wsub (.ref d) (.str s) _ _
    (dsimp only [Zf9]; rw [hd1])
    refine ⟨_, hr1, ?_⟩
    refine Zd9 (xs := txs (nd s)) (by simp only [Zan]; rw [hr2]) (by rw [Za2]; exact Nat.le_trans hr3 (by decide)) (fun v => match v with | .str o => if (decide (o ∈ K) || decide (o ∈ D)) then none else some (.str o) | _ => none) ?_ ?_
    · intro v hv H₁ hE₁ nx hnx
      obtain ⟨o, ho, rfl⟩ : ∃ o, o ∈ nd s ∧ v = .str o := by
        unfold txs at hv; rw [List.mem_map] at hv; obtain ⟨o, h1, h2⟩ := hv; exact ⟨o, h1, h2.symm⟩
      refine Eq.mpr (if_neg (by decide)) (Eq.mpr (Zbt) (Eq.mpr (x_ao) (Eq.mpr (Zat) (Eq.mpr (Zak) (Eq.mpr (Zae) ?_)))))
      show wpX _ (.var 2) _ _ _ _
      dsimp only [Zae]
      show wcmp .NotIn (.str o) (.ref kt) _ _
      dsimp only [Zdt]
      refine Znq ((hk.ext hE).ext hE₁) ?_
      have hn := hnx H₁ .refl
      by_cases h1 : o ∈ K
      · simp only [h1, decide_true, Bool.true_or, if_true] at hn ⊢; exact hn
      · simp only [h1, decide_false, Bool.false_or] at hn ⊢
        show wpAO _ true [_] _ _ _ _
        refine Eq.mpr (Za5) (Eq.mpr (Zak) (Eq.mpr (Zae) ?_))
        show wpX _ (.var 3) _ _ _ _
        dsimp only [Zae]
        show wcmp .NotIn (.str o) (.ref dt) _ _
        dsimp only [Zdt]
        refine Znq ((ht.ext hE).ext hE₁) ?_
        by_cases h2 : o ∈ D
        · simp only [h2, decide_true, if_true] at hn ⊢; exact hn
        · simp only [h2, decide_false, Bool.false_eq_true, if_false] at hn ⊢; exact hn
    · intro b H₁ hE₁ hb
      have hfm : ∀ l : List Str, (txs l).filterMap (fun v => match v with | .str o => if (decide (o ∈ K) || decide (o ∈ D)) then none else some (AV.str o) | _ => none) = txs (l.filter fun o => !decide (o ∈ K) && !decide (o ∈ D)) := by
        intro l
        induction l with
        | nil => rfl
        | cons t r ih =>
          show List.filterMap _ (AV.str t :: txs r) = _
          rw [List.filterMap_cons, ih, List.filter_cons]
          by_cases h1 : t ∈ K <;> by_cases h2 : t ∈ D <;> simp [txs, h1, h2]
      rw [hfm]
      show wpX _ (.list []) _ _ _ _
      dsimp only [Zam, Zaf]
      intro b' hb'
      dsimp only [Zr7]
      refine Zex (l := (nd s).filter fun o => !decide (o ∈ K) && !decide (o ∈ D)) (l' := []) (Zgj Zad hb') Zad ?_
      have hz₁ : H₁ z = some (.list (txs ((l.take k).filter (metB nd K D)))) := hE₁ _ _ hz'
      have hbz : z ≠ b := Zvr hz₁ hb
      have hb1 : H₁ b' = none := by
        have : b' ≠ b := fun w => by rw [w, Zad] at hb'; cases hb'
        rwa [Zab this] at hb'
      have hbz' : z ≠ b' := Zvr hz₁ hb1
      have hz₂ : (up (up H₁ b (.list (txs ((nd s).filter fun o => !decide (o ∈ K) && !decide (o ∈ D))))) b' (.list [])) z = some (.list (txs ((l.take k).filter (metB nd K D)))) := by
        rw [Zab hbz', Zab hbz]; exact hz₁
      have hE₂ : Ext H (up (up H₁ b (.list (txs ((nd s).filter fun o => !decide (o ∈ K) && !decide (o ∈ D))))) b' (.list [])) := ((hE.trans hE₁).new hb).new hb'
      have hm : decide ((nd s).filter (fun o => !decide (o ∈ K) && !decide (o ∈ D)) = []) = metB nd K D s := by
        unfold metB
        rw [Bool.eq_iff_iff]
        simp only [decide_eq_true_eq, List.filter_eq_nil_iff, List.all_eq_true, Bool.or_eq_true, Bool.and_eq_true, Bool.not_eq_true', decide_eq_false_iff_not]
        constructor
        · intro h o ho
          by_cases h1 : o ∈ K
          · exact .inl h1
          · exact .inr (Classical.byContradiction fun h2 => h o ho ⟨h1, h2⟩)
        · rintro h o ho ⟨h1, h2⟩
          rcases h o ho with z | z
          · exact h1 z
          · exact h2 z
      rw [hm]
      cases h : metB nd K D s with
      | true =>
        show wpSs _ _ _ _ _ [some (.ref a), some (.ref d), some (.ref kt), some (.ref dt), some (.ref z), some (.str s)] _
        refine w_st fun K3 nx3 => ?_
        dsimp only [Zao, x_bm, Zae]
        refine ⟨?_, ?_⟩
        · show match (up (up H₁ b _) b' _) z with | some (.list _) => _ | some (.dict _ _) => _ | _ => False
          rw [hz₂]; exact .inl rfl
        dsimp only [Zac, Zae]
        show wpXs _ [] _ _ _ _
        dsimp only [Zaf]
        refine Zb5 hz₂ (by have := List.length_filter_le (metB nd K D) (l.take k); rw [List.length_take] at this; rw [Za2]; omega) (nx3 _ _ (nx2 _ _ ?_))
        refine hI _ _ _ ⟨_, rfl, hE₂.own hz, ?_⟩
        rw [Zad, Zbw hs, List.filter_append, Zdv]
        simp [h]
      | false =>
        refine nx2 _ _ (hI _ _ _ ⟨_, rfl, hE₂, ?_⟩)
        rw [hz₂, Zbw hs, List.filter_append]
        simp [h]
end
noncomputable def Zmo (full : List Str) (nd : Str → List Str) (done : List Str) (S : Str → Prop) : Prop := ∀ x, S x → x ∈ full ∧ ∀ o ∈ nd x, S o ∨ o ∈ done
structure Grt (full : List Str) (nd : Str → List Str) (done g : List Str) : Prop where
  sub : g.Sublist full
  met : ∀ x ∈ g, ∀ o ∈ nd x, o ∈ g ∨ o ∈ done
  top : ∀ S, Zmo full nd done S → ∀ x, S x → x ∈ g
theorem Zlg {α : Type} {p : α → Bool} {l : List α} (h : l.length ≤ (l.filter p).length) : l.filter p = l := by
  apply List.Sublist.eq_of_length List.filter_sublist
  have := List.length_filter_le p l
  lia
section
variable {c : Cx} {P : Pg} (G : Gd c P) {n : Nat} {Q : AV → Zaa → Prop} {E : String → Zaa → Prop} {H : Zaa}
noncomputable def GInv (H : Zaa) (full done : List Str) (nd : Str → List Str) (fu d dn rd : Addr) (k : Nat) (V' : VV) (H' : Zaa) : Prop :=
  ∃ na fo nl, V' = [some (.ref fu), some (.ref d), some (.ref dn), some (.ref rd), some (.ref na), some (.ref fo)] ∧ Ext H H' ∧ TabIs H' rd done ∧ H' na = some (.list (txs nl)) ∧ k = nl.length ∧ nl.Sublist full ∧
    (∀ S, Zmo full nd done S → ∀ x, S x → x ∈ nl) ∧ H' fo = some (.list (txs (nl.filter (metB nd nl done)))) ∧ H fo = none
theorem Zoz {full done nl : List Str} {nd : Str → List Str} (h : ∀ S, Zmo full nd done S → ∀ x, S x → x ∈ nl) : ∀ S, Zmo full nd done S → ∀ x, S x → x ∈ nl.filter (metB nd nl done) := by
  intro S hS x hx
  rw [List.mem_filter]
  refine ⟨h S hS x hx, ?_⟩
  unfold metB
  rw [List.all_eq_true]
  intro o ho
  rcases (hS x hx).2 o ho with z | z
  · simp [h S hS o z]
  · simp [z]
set_option tactic.hygienic true in
include G in
theorem Zld (h1 : P.fns.lookup "greatest" = some BK.f_greatest) (h2 : P.fns.lookup "are_met" = some BK.f_are_met) (h3 : P.fns.lookup "table_of" = some BK.f_table_of) {fu d dn : Addr} {full done : List Str} {nd : Str → List Str}
    (hf : H fu = some (.list (txs full))) (hd : NeedsAt H d nd full) (hn : H dn = some (.list (txs done))) (lf : full.length ≤ 1000) (ld : done.length ≤ 1000)
    (q : ∀ z H' g, Ext H H' → H z = none → H' z = some (.list (txs g)) → Grt full nd done g → Q (.ref z) H') : CallOK c (n + 2) true "greatest" [.ref fu, .ref d, .ref dn] Q E H := by
  refine G.call (F := BK.f_greatest) h1 rfl ?_
  show wpSs _ _ _ _ _ [some (.ref fu), some (.ref d), some (.ref dn), none, none, none] _
  refine w_st fun KK nx => ?_
  dsimp only [Zaj, tv, List.length_cons, List.length_nil, Nat.reduceAdd, List.set_cons_succ, List.set_cons_zero, Zal, Zac, Zaf, Zae, List.getElem?_cons_succ, v_0]
  refine Zim G h3 hn ld fun rd H₁ hE₁ hrd ht1 => ⟨by decide, nx _ _ ?_⟩
  refine w_st fun KK nx => ?_
  show wpS _ _ _ _ _ [some (.ref fu), some (.ref d), some (.ref dn), some (.ref rd), none, none] _
  dsimp only [Zaj, tv, List.length_cons, List.length_nil, Nat.reduceAdd, List.set_cons_succ, List.set_cons_zero, Zar, Zac, Zaf, Zae, v_0]
  refine Zkz (hE₁ _ _ hf) lf fun na hna => ⟨by decide, nx _ _ ?_⟩
  have hE₂ := hE₁.new (o := .list (txs full)) hna
  refine w_st fun KK nx => ?_
  show wpS _ _ _ _ _ [some (.ref fu), some (.ref d), some (.ref dn), some (.ref rd), some (.ref na), none] _
  dsimp only [Zaj, tv, List.length_cons, List.length_nil, Nat.reduceAdd, List.set_cons_succ, List.set_cons_zero, Zal, Zac, Zaf, Zae, List.getElem?_cons_succ, v_0]
  refine Zim G h3 (a := na) (l := full) Zad lf fun kt H₃ hE₃ hkt ht3 => ?_
  have hE : Ext H H₃ := hE₂.trans hE₃
  have hE13 : Ext H₁ H₃ := (Ext.refl.new hna).trans hE₃
  have hna3 : H₃ na = some (.list (txs full)) := hE₃ _ _ Zad
  refine Zsu G h2 hna3 (hd.ext hE) ht3 (ht1.ext hE13) lf fun fo H₄ hE₄ hfo hfo' => ⟨by decide, nx _ _ ?_⟩
  refine w_st fun KK nx => ?_
  dsimp only [Zbq]
  refine ⟨rfl, GInv H full done nd fu d dn rd, ⟨full.length, na, fo, full, rfl, hE.trans hE₄, (ht1.ext hE13).ext hE₄, hE₄ _ _ hna3, rfl, List.Sublist.refl _, fun S hS x hx => (hS x hx).1, hfo', hE.none hfo⟩, ?_⟩
  rintro k V' H' ⟨na', fo', nl, rfl, hX, hR, hN, rfl, hS, hT, hF, hFn⟩
  have hlen : nl.length ≤ full.length := hS.length_le
  have hlen' := List.length_filter_le (metB nd nl done) nl
  have hS' : (nl.filter (metB nd nl done)).Sublist full := List.filter_sublist.trans hS
  have hT' := Zoz hT
  generalize hfl : nl.filter (metB nd nl done) = fl at hF hlen' hS' hT'
  dsimp only [Zak, Zar, Zac, Zaf, Zae, List.getElem?_cons_succ, v_0]
  refine Zog hF (by rw [Za2]; lia) ?_
  refine Zog hN (by rw [Za2]; lia) ?_
  (dsimp only [c_lt, Zai]; rw [Za2, Za2])
  by_cases hlt : fl.length < nl.length
  · rw [decide_eq_true (by exact Int.ofNat_lt.mpr (by assumption))]
    show wpSs _ _ _ _ _ [some (.ref fu), some (.ref d), some (.ref dn), some (.ref rd), some (.ref na'), some (.ref fo')] _
    refine w_st fun K2 nx2 => ?_
    dsimp only [Zaj, Zae]
    refine ⟨show 4 < 6 by decide, nx2 _ _ ?_⟩
    refine w_st fun K2 nx2 => ?_
    show wpS _ _ _ _ _ [some (.ref fu), some (.ref d), some (.ref dn), some (.ref rd), some (.ref fo'), some (.ref fo')] _
    dsimp only [Zaj, tv, List.length_cons, List.length_nil, Nat.reduceAdd, List.set_cons_succ, List.set_cons_zero, Zal, Zac, Zaf, Zae, List.getElem?_cons_succ, v_0]
    refine Zim G h3 hF (by lia) fun kt' H₅ hE5 _ ht5 => ?_
    refine Zsu G h2 (hE5 _ _ hF) (((hd.ext hX).ext hE5).sub fun x hx => hS'.subset hx) ht5 (hR.ext hE5) (by lia) fun fo2 H₆ hE6 hfo2 hfo2' => ⟨by decide, nx2 _ _ ?_⟩
    exact ⟨_, hlt, fo', fo2, _, rfl, (hX.trans hE5).trans hE6, (hR.ext hE5).ext hE6, hE6 _ _ (hE5 _ _ hF), rfl, hS', hT', hfo2', (hX.trans hE5).none hfo2⟩
  · rw [decide_eq_false (by lia)]
    refine nx _ _ ?_
    have he : fl = nl := by
      rw [← hfl] at hlt ⊢
      exact Zlg (by lia)
    rw [he] at hF
    refine q fo' H' nl hX hFn hF ⟨hS, fun x hx o ho => ?_, hT⟩
    rw [← he, ← hfl, List.mem_filter] at hx
    have := hx.2
    unfold metB at this
    rw [List.all_eq_true] at this
    simpa using this o ho
end
end Mine
end
section
open PySem PySem.W PyProof.Rows PySem.Spec PySem.SeqAt PySem.Calls
namespace Mine
noncomputable def Zcv (ps : List Pc) : List Str := (ps.filter Zgn).map (·.name)
noncomputable def Zf5 (ps : List Pc) : List Str := (ps.filter fun x => x.state == .dn).map (·.name)
noncomputable def ndB (B : Bk) (k : Str) : List Str := match pAt B.pacts k with
  | some e => e.2.needs
  | none => []
theorem Zif {ps : List Pc} {x : Pc} : Zcv (ps ++ [x]) = Zcv ps ++ (if Zgn x then [x.name] else []) := by
  unfold Zcv; rw [List.filter_append, List.map_append]
  cases h : Zgn x <;> simp [h]
theorem Zih {ps : List Pc} {x : Pc} : Zf5 (ps ++ [x]) = Zf5 ps ++ (if x.state == .dn then [x.name] else []) := by
  unfold Zf5; rw [List.filter_append, List.map_append]
  cases h : x.state == Sta.dn <;> simp [h]
theorem Zjy {ps : List Pc} : (Zcv ps).length ≤ ps.length := by unfold Zcv; rw [List.length_map]; exact List.length_filter_le _ _
theorem Zj5 {ps : List Pc} : (Zf5 ps).length ≤ ps.length := by unfold Zf5; rw [List.length_map]; exact List.length_filter_le _ _
theorem Zjl : ∀ {ps : List Pc} {j : Nat} {x : Pc}, (ps.map (·.name)).Nodup → ps[j]? = some x → pAt ps x.name = some (j, x)
  | q :: r, 0, x, _, h => by cases h; unfold pAt; rw [if_pos rfl]
  | q :: r, j + 1, x, hn, h => by
    rw [List.map_cons, List.nodup_cons] at hn
    have hx : x ∈ r := List.mem_of_getElem? h
    unfold pAt
    rw [if_neg (fun e => hn.1 (by rw [e]; exact List.mem_map_of_mem hx)), Zjl hn.2 h]; rfl
  | [], _, _, _, h => by cases h
noncomputable def NAt (o : Addr → Option Role) (H : Zaa) (r e : Addr) (nd : Str → List Str) (es : List (Str × AV)) (l : List Str) : Prop := ∀ x ∈ l, ∃ ρ, Zb0 es x = some (.ref ρ) ∧ ρ ≠ r ∧ ρ ≠ e ∧ o ρ = none ∧ H ρ = some (.list (txs (nd x))) ∧ (nd x).length ≤ 1000
theorem NAt.keep {o o' : Addr → Option Role} {H H' : Zaa} {r e : Addr} {nd : Str → List Str} {es : List (Str × AV)} {l : List Str} (h : NAt o H r e nd es l) (k : ∀ ρ v, ρ ≠ r → ρ ≠ e → o ρ = none → H ρ = some (.list v) → o' ρ = none ∧ H' ρ = some (.list v)) : NAt o' H' r e nd es l := fun x hx => by
  obtain ⟨ρ, h1, h2, h3, h4, h5, h6⟩ := h x hx
  have := k ρ _ h2 h3 h4 h5
  exact ⟨ρ, h1, h2, h3, this.1, this.2, h6⟩
theorem Zrq {es : List (Str × AV)} {k x : Str} {v : AV} : Zb0 (putS es k v) x = if x = k then some v else Zb0 es x := by
  unfold putS
  by_cases h : (Zb0 es k).isSome = true
  · rw [if_pos h]
    unfold Zb0 at h ⊢
    induction es with
    | nil => cases h
    | cons e r ih =>
      rw [List.map_cons, List.find?_cons, List.find?_cons]
      rw [List.find?_cons] at h
      by_cases e1 : e.1 = k
      · rw [if_pos e1]
        by_cases e2 : x = k
        · rw [show decide ((e.1, v).1 = x) = true from decide_eq_true (e1.trans e2.symm), if_pos e2]; rfl
        · have e3 : e.1 ≠ x := fun z => e2 (z.symm.trans e1)
          rw [show decide ((e.1, v).1 = x) = false from decide_eq_false e3, if_neg e2]
          clear ih h
          show Option.map _ (List.find? _ _) = Option.map _ (List.find? _ _)
          congr 1
          induction r with
          | nil => rfl
          | cons a r ih =>
            rw [List.map_cons, List.find?_cons, List.find?_cons]
            by_cases a1 : a.1 = k
            · rw [if_pos a1]
              have : a.1 ≠ x := fun z => e2 (z.symm.trans a1)
              rw [show decide ((a.1, v).1 = x) = false from decide_eq_false this]; exact ih
            · rw [if_neg a1]
              cases decide (a.1 = x)
              · exact ih
              · rfl
      · rw [if_neg e1]
        rw [show decide (e.1 = k) = false from decide_eq_false e1] at h
        by_cases e2 : e.1 = x
        · rw [show decide (e.1 = x) = true from decide_eq_true e2, if_neg (fun z => e1 (e2.trans z))]
        · rw [show decide (e.1 = x) = false from decide_eq_false e2]; exact ih h
  · rw [if_neg h]
    have hn : Zb0 es k = none := by cases q : Zb0 es k with | none => rfl | some => rw [q] at h; exact absurd rfl h
    clear h
    unfold Zb0 at hn ⊢
    rw [List.find?_append, Option.map_eq_none_iff] at *
    by_cases e2 : x = k
    · rw [if_pos e2, e2, hn]; simp
    · rw [if_neg e2]
      cases List.find? (fun e => decide (e.1 = x)) es with
      | none => simp [show ¬ k = x from fun z => e2 z.symm]
      | some w => rfl
inductive Zqj (B : Bk) (o : Addr → Option Role) (H : Zaa) (b f s p : Addr) (as : List Addr) (zv r d e : Addr) (m1 m2 : Nat) (V' : VV) (H' : Zaa) : Prop
  | mk (o' : Addr → Option Role) (ep : Nat) (es : List (Str × AV)) (pr : Option AV) (hV : V' = [some (.ref b), some (.ref r), some (.ref d), some (.ref e), pr]) (ib : IsBook o' H' b f s p as B) (fr : Fr1 o H o' H') (hz : H' zv = some (.list (as.map .ref))) (hr : H' r = some (.list (txs (Zcv (B.pacts.take m1))))) (hd : H' d = some (.dict ep es)) (he : H' e = some (.list (txs (Zf5 (B.pacts.take m2)))))
      (zo : o' zv = none) (ro : o' r = none) (dO : o' d = none) (eo : o' e = none) (hl : es.length ≤ m1) (hn : NAt o' H' r e (ndB B) es (Zcv (B.pacts.take m1))) : Zqj B o H b f s p as zv r d e m1 m2 V' H'
theorem IsBook.some {o : Addr → Option Role} {H : Zaa} {b f s p : Addr} {as : List Addr} {B : Bk} (ib : IsBook o H b f s p as B) : ∃ y, H b = Option.some y := ⟨_, ib.hb⟩
section
variable {c : Cx} {P : Pg} (G : Gd c P) (U : HasP P) {n : Nat} {md : Bool} {Q : AV → Zaa → Prop} {E : String → Zaa → Prop} {H : Zaa} {o : Addr → Option Role} {b f s p a : Addr} {as : List Addr} {B : Bk} {j : Nat} {x : Pc}
include G U
theorem Zkp (hU : P.fns.lookup "Book.standing" = some BK.f_Book_standing) (hU1 : P.fns.lookup "Pact.is_full" = some BK.f_Pact_is_full) (ib : IsBook o H b f s p as B) (ok : BkOK B) (nd : (B.pacts.map (·.name)).Nodup)
    (q : ∀ z r d e o' H', H z = none → o' z = none → o' r = none → o' d = none → o' e = none → H' z = some (.tuple [.ref r, .ref d, .ref e]) → H' r = some (.list (txs (Zcv B.pacts))) → NeedsAt H' d (ndB B) (Zcv B.pacts) → H' e = some (.list (txs (Zf5 B.pacts))) → IsBook o' H' b f s p as B → Fr1 o H o' H' → Q (.ref z) H') : CallOK c (n + 2) true "Book.standing" [.ref b] Q E H := by
  refine G.call (F := BK.f_Book_standing) hU rfl ?_
  have hA : c.P.attrs = BK.attrs := by rw [G.hP, U.a.attrs]
  have hM : c.P.meths = BK.meths := by rw [G.hP, U.a.meths]
  show wpSs _ _ _ _ _ [some (.ref b), none, none, none, none] _
  refine w_st fun K nx => ?_
  dsimp only [Zaj, Zam, Zaf]
  intro r hr0
  refine ⟨show 1 < 5 by decide, nx _ _ ?_⟩
  obtain ⟨ib1, f1⟩ := ib.fresh hr0 (.list [])
  refine w_st fun K nx => ?_
  dsimp only [Zaj, Zap]
  intro d hd0
  refine ⟨show 2 < 5 by decide, nx _ _ ?_⟩
  obtain ⟨ib2, f2⟩ := ib1.fresh hd0 (.dict 0 [])
  refine w_st fun K nx => ?_
  dsimp only [Zaj, Zam, Zaf]
  intro e he0
  refine ⟨show 3 < 5 by decide, nx _ _ ?_⟩
  obtain ⟨ib3, f3⟩ := ib2.fresh he0 (.list [])
  have hrd : r ≠ d := Zgm hd0
  have hde : d ≠ e := Zgm he0
  have hre : r ≠ e := Zgm (by rw [Zab hde.symm] at he0; exact he0)
  have hd' : H d = none := Zc3 hd0
  have he' : H e = none := Zc3 (Zc3 he0)
  obtain ⟨r2, ro2⟩ := f2.old r _ Zad (if_pos rfl)
  obtain ⟨r3, ro3⟩ := f3.old r _ r2 ro2
  obtain ⟨d3, do3⟩ := f3.old d _ Zad (if_pos rfl)
  have fr3 := (f1.trans f2).trans f3
  obtain ⟨o3, H3, ib3, fr3, r3, d3, e3, ro3, do3, eo3⟩ : ∃ o3 H3, IsBook o3 H3 b f s p as B ∧ Fr1 o H o3 H3 ∧ H3 r = some (.list []) ∧ H3 d = some (.dict 0 []) ∧ H3 e = some (.list []) ∧ o3 r = none ∧ o3 d = none ∧ o3 e = none ∧ H3 = up (up (up H r (.list [])) d (.dict 0 [])) e (.list []) := ⟨_, _, ib3, fr3, r3, d3, Zad, ro3, do3, if_pos rfl, rfl⟩
  obtain ⟨eo3, hH3⟩ := eo3
  rw [← hH3]
  refine w_st fun K nx => ?_
  dsimp only [Zba]
  refine ⟨rfl, ?_⟩
  refine Zgx hA rfl ib3 ok.len rfl fun zv o4 H4 hzv0 hzvo hzv ib4 f4 => ?_
  obtain ⟨r4, ro4⟩ := f4.old _ _ r3 ro3
  obtain ⟨d4, do4⟩ := f4.old _ _ d3 do3
  obtain ⟨e4, eo4⟩ := f4.old _ _ e3 eo3
  obtain ⟨_, hlen⟩ := Zf6 ib4.ps
  have fr4 := fr3.trans f4
  have hzr : zv ≠ r := fun h => by rw [h, r3] at hzv0; cases hzv0
  have hzd : zv ≠ d := fun h => by rw [h, d3] at hzv0; cases hzv0
  have hze : zv ≠ e := fun h => by rw [h, e3] at hzv0; cases hzv0
  clear hH3 f1 f2 f3 r2 ro2 ib1 ib2
  refine Zcw (xs := as.map .ref) (by simp only [Zan]; rw [hzv]) (fun m V' H' => Zqj B o H b f s p as zv r d e m m V' H') ⟨o4, 0, [], none, rfl, ib4, fr4, hzv, r4, d4, e4, hzvo, ro4, do4, eo4, Nat.le_refl _, fun x hx => by cases hx⟩ ?_
  rintro I hI m V' H' ⟨o', ep, es, pr, rfl, ib', fr', hz', hr', hdd', hee', zo', ro', do', eo', hl', hn'⟩
  refine ⟨by show H' zv = _; rw [hz', hzv], fun hm => ?_, fun y hy => ?_⟩
  · rw [List.length_map, hlen] at hm
    rw [hm, List.take_length] at hr' hee' hn'
    refine nx _ _ ?_
    refine w_st fun K nx => ?_
    dsimp only [Za8, Zbg]
    show ∀ z, H' z = none → _
    intro z hz0
    obtain ⟨ib5, f5⟩ := ib'.fresh hz0 (.tuple [.ref r, .ref d, .ref e])
    obtain ⟨r5, ro5⟩ := f5.old _ _ hr' ro'
    obtain ⟨d5, do5⟩ := f5.old _ _ hdd' do'
    obtain ⟨e5, eo5⟩ := f5.old _ _ hee' eo'
    refine q z r d e _ _ (fr'.gr z hz0) (if_pos rfl) ro5 do5 eo5 Zad r5 ⟨ep, es, d5, fun x hx => ?_⟩ e5 ib5 (fr'.trans f5)
    obtain ⟨ρ, h1, _, _, h4, h5, h6⟩ := hn' x hx
    exact ⟨ρ, h1, (f5.old _ _ h5 h4).1, h6⟩
  rw [List.getElem?_map, Option.map_eq_some_iff] at hy
  obtain ⟨a, ha, rfl⟩ := hy
  obtain ⟨x, hx⟩ : ∃ x, B.pacts[m]? = some x := ⟨B.pacts[m]'(by rw [← hlen]; exact (List.getElem?_eq_some_iff.mp ha).1), List.getElem?_eq_getElem _⟩
  have hin := ok.inl m x hx
  have hml : m < B.pacts.length := (List.getElem?_eq_some_iff.mp hx).1
  have hpl := ok.len
  have htk : B.pacts.take (m + 1) = B.pacts.take m ++ [x] := by rw [List.take_add_one, hx]; rfl
  have hndx : ndB B x.name = x.needs := by unfold ndB; rw [Zjl nd hx]
  refine ⟨show 4 < 5 by decide, ?_⟩
  refine w_st fun K2 nx2 => ?_
  show wpS _ _ _ _ _ [some (.ref b), some (.ref r), some (.ref d), some (.ref e), some (.ref a)] _
  have second : ∀ H1, Zqj B o H b f s p as zv r d e (m + 1) m [some (.ref b), some (.ref r), some (.ref d), some (.ref e), some (.ref a)] H1 → K2 [some (.ref b), some (.ref r), some (.ref d), some (.ref e), some (.ref a)] H1 := by
    rintro H1 ⟨o1, ep1, es1, pr1, hV1, ib1, fr1, hz1, hr1, hd1, he1, zo1, ro1, do1, eo1, hl1, hn1⟩
    refine nx2 _ _ ?_
    refine w_st fun K3 nx3 => ?_
    dsimp only [Zax, Zak]
    refine Zff hA (ib1.pact hx ha) rfl ?_
    (dsimp only [Zag, Zci, Zai]; rw [Zuv])
    have hdn := Zih (ps := B.pacts.take m) (x := x)
    cases hs : x.state == Sta.dn with
    | false =>
      rw [hs] at hdn
      refine nx3 _ _ (hI _ _ _ ⟨o1, ep1, es1, _, rfl, ib1, fr1, hz1, hr1, hd1, ?_, zo1, ro1, do1, eo1, hl1, hn1⟩)
      rw [htk, hdn, he1]; simp
    | true =>
      rw [hs] at hdn
      show wpSs _ _ _ _ _ [some (.ref b), some (.ref r), some (.ref d), some (.ref e), some (.ref a)] _
      refine w_st fun K4 nx4 => ?_
      dsimp only [Zao, x_bm, Zae]
      refine ⟨?_, ?_⟩
      · show match H1 e with | some (.list _) => _ | some (.dict _ _) => _ | _ => False
        rw [he1]; exact .inl rfl
      dsimp only [Zac]
      refine Ziu hA (ib1.pact hx ha) rfl ?_
      dsimp only [Zaf]
      refine Zb5 he1 (by rw [Za2]; have := Zj5 (ps := B.pacts.take m); rw [List.length_take] at this; lia) (nx4 _ _ (nx3 _ _ (hI _ _ _ ⟨o1, ep1, es1, _, rfl, ib1.upN eo1 _, fr1.upF he', ?_, ?_, ?_, ?_, zo1, ro1, do1, eo1, hl1, hn1.keep fun ρ v h1 h2 h3 h4 => ⟨h3, by rw [Zab h2]; exact h4⟩⟩)))
      · rw [Zab hze]; exact hz1
      · rw [Zab hre]; exact hr1
      · rw [Zab hde]; exact hd1
      · rw [Zad, htk, hdn, Zdv]; rfl
  have hfu := Zif (ps := B.pacts.take m) (x := x)
  dsimp only [Zax]
  refine Zof hA (ib'.pact hx ha) rfl hM (by decide) (by decide) ?_
  dsimp only [Zaf]
  refine Zid G hU1 hA (ib'.pact hx ha) hin.1 hin.2.1 ?_
  dsimp only [Zai]
  cases hs : Zgn x with
  | false =>
    rw [hs] at hfu
    refine second H' ⟨o', ep, es, _, rfl, ib', fr', hz', ?_, hdd', hee', zo', ro', do', eo', Nat.le_succ_of_le hl', ?_⟩
    · rw [htk, hfu, hr']; simp
    · rw [htk, hfu]; simpa using hn'
  | true =>
  rw [hs] at hfu
  show wpSs _ _ _ _ _ [some (.ref b), some (.ref r), some (.ref d), some (.ref e), some (.ref a)] _
  refine w_st fun K3 nx3 => ?_
  dsimp only [Zao, x_bm, Zae]
  refine ⟨?_, ?_⟩
  · show match H' r with | some (.list _) => _ | some (.dict _ _) => _ | _ => False
    rw [hr']; exact .inl rfl
  dsimp only [Zac]
  refine Ziu hA (ib'.pact hx ha) rfl ?_
  dsimp only [Zaf]
  refine Zb5 hr' (by rw [Za2]; have := Zjy (ps := B.pacts.take m); rw [List.length_take] at this; lia) (nx3 _ _ ?_)
  have ib5 := ib'.upN ro' (.list (txs (Zcv (B.pacts.take m)) ++ [.str x.name]))
  have fr5 : Fr1 o H o' (up H' r (.list (txs (Zcv (B.pacts.take m)) ++ [.str x.name]))) := fr'.upF hr0
  have n5 := hn'.keep (H' := up H' r (.list (txs (Zcv (B.pacts.take m)) ++ [.str x.name]))) fun ρ v h1 h2 h3 h4 => ⟨h3, by rw [Zab h1]; exact h4⟩
  have z5 : up H' r (.list (txs (Zcv (B.pacts.take m)) ++ [.str x.name])) zv = some (.list (as.map .ref)) := by rw [Zab hzr]; exact hz'
  have d5 : up H' r (.list (txs (Zcv (B.pacts.take m)) ++ [.str x.name])) d = some (.dict ep es) := by rw [Zab hrd.symm]; exact hdd'
  have e5 : up H' r (.list (txs (Zcv (B.pacts.take m)) ++ [.str x.name])) e = some (.list (txs (Zf5 (B.pacts.take m)))) := by rw [Zab hre.symm]; exact hee'
  have r5 : up H' r (.list (txs (Zcv (B.pacts.take m)) ++ [.str x.name])) r = some (.list (txs (Zcv (B.pacts.take m)) ++ [.str x.name])) := Zad
  generalize up H' r (.list (txs (Zcv (B.pacts.take m)) ++ [.str x.name])) = H5 at ib5 fr5 n5 z5 d5 e5 r5
  refine w_st fun K4 nx4 => ?_
  dsimp only [Zaj, Zar, Zac]
  refine Zly hA (ib5.pact hx ha) rfl fun zn _ hzn => ?_
  dsimp only [Zaf]
  refine Zkz hzn (Nat.le_trans hin.2.2.2 (by decide)) fun ρ hρ => ?_
  obtain ⟨ib6, f6⟩ := ib5.fresh hρ (.list (txs x.needs))
  have fr6 := fr5.trans f6
  obtain ⟨z6, zo6⟩ := f6.old _ _ z5 zo'
  obtain ⟨d6, do6⟩ := f6.old _ _ d5 do'
  obtain ⟨e6, eo6⟩ := f6.old _ _ e5 eo'
  obtain ⟨r6, ro6⟩ := f6.old _ _ r5 ro'
  dsimp only [tsub, Zae]
  show wpX _ (.attr (.var 4) "name") _ _ _ _
  refine Ziu hA (ib6.pact hx ha) rfl ?_
  show match up H5 ρ (.list (txs x.needs)) d with | some (.dict _ _) => _ | _ => False
  rw [d6]
  have hρr : ρ ≠ r := fun h => by rw [h, r5] at hρ; cases hρ
  have hρe : ρ ≠ e := fun h => by rw [h, e5] at hρ; cases hρ
  have hρd : ρ ≠ d := fun h => by rw [h, d5] at hρ; cases hρ
  refine ⟨Nat.le_trans (show es.length ≤ 1000 by lia) (by decide), fun ep' => nx4 _ _ (second _ ⟨_, ep', putS es x.name (.ref ρ), _, rfl, ib6.upN do6 _, fr6.upF hd', ?_, ?_, Zad, ?_, zo6, ro6, do6, eo6, ?_, ?_⟩)⟩
  · rw [Zab hzd]; exact z6
  · rw [Zab hrd, r6, htk, hfu, Zdv]; rfl
  · rw [Zab hde.symm]; exact e6
  · have := Zoa (es := es) (k := x.name) (v := .ref ρ); lia
  · intro y hy
    rw [Zrq]
    by_cases hyx : y = x.name
    · rw [if_pos hyx]
      refine ⟨ρ, rfl, hρr, hρe, if_pos rfl, ?_, ?_⟩
      · rw [Zab hρd, Zad, hyx, hndx]
      · rw [hyx, hndx]; exact Nat.le_trans hin.2.2.2 (by decide)
    · rw [if_neg hyx]
      rw [htk, hfu] at hy
      have hy' : y ∈ Zcv (B.pacts.take m) := by
        rcases List.mem_append.mp hy with h | h
        · exact h
        · exact absurd (List.mem_singleton.mp h) hyx
      obtain ⟨ρ', h1, h2, h3, h4, h5, h6⟩ := n5 y hy'
      obtain ⟨h7, h8⟩ := f6.old _ _ h5 h4
      refine ⟨ρ', h1, h2, h3, h8, ?_, h6⟩
      rw [Zab (fun z => by rw [z, d6] at h7; cases h7)]; exact h7
end
end Mine
end
section
open PySem PySem.W PyProof.Rows PySem.Spec PySem.SeqAt PySem.Calls
namespace Mine
section
variable {o : Addr → Option Role} {H : Zaa} {b f s p a : Addr} {as : List Addr} {B : Bk} {j : Nat} {x : Pc} {Q : AV → Zaa → Prop} {E : String → Zaa → Prop}
noncomputable def payAll : List (Str × Int) → Bk → Bk
  | [], B => B
  | e :: l, B => payAll l { B with aside := pt B.aside e.1 ((lk B.aside e.1).getD 0 - e.2) }
theorem Zg6 {e : Str × Int} : ∀ {l : List (Str × Int)} {B : Bk}, payAll (l ++ [e]) B = { payAll l B with aside := pt (payAll l B).aside e.1 ((lk (payAll l B).aside e.1).getD 0 - e.2) }
  | [], B => rfl
  | _ :: l, B => Zg6 (l := l)
theorem SameB.payAll : ∀ {l : List (Str × Int)} {B : Bk}, (∀ e ∈ l, hs B.aside e.1 = true) → SameB B (Mine.payAll l B) ∧ (Mine.payAll l B).pacts = B.pacts
  | [], B, _ => ⟨.refl, rfl⟩
  | e :: l, B, h => by
    have h0 := h e List.mem_cons_self
    have s1 : SameB B { B with aside := pt B.aside e.1 ((lk B.aside e.1).getD 0 - e.2) } := ⟨rfl, rfl, (Zed h0).1, fun _ => rfl, (Zed h0).2⟩
    obtain ⟨s2, p2⟩ := SameB.payAll (l := l) (B := { B with aside := pt B.aside e.1 ((lk B.aside e.1).getD 0 - e.2) }) fun e' he => by rw [s1.ah]; exact h e' (List.mem_cons_of_mem _ he)
    exact ⟨s1.trans s2, p2⟩
theorem Zkx {g : Gx} {V : VV} {QN : VV → Zaa → Prop} {QR : AV → Zaa → Prop} {EE : String → VV → Zaa → Prop} {v1 v2 v3 v5 : Option AV} (hA : g.c.P.attrs = BK.attrs) (hmd : g.md = true) (ib : IsBook o H b f s p as B) (hj : B.pacts[j]? = some x) (ha : as[j]? = some a) (hV : V = [some (.ref b), v1, v2, v3, some (.ref a), v5]) (hz : B.aside.length ≤ sizeLine) (able : ∀ e ∈ x.parts, hs B.aside e.1 = true)
    (q : ∀ H' v5', IsBook o H' b f s p as (payAll x.parts B) → Fr1 o H o H' → KD o H H' → QN [some (.ref b), v1, v2, v3, some (.ref a), v5'] H') :
    wpS g (.for (.var 5) (.attr (.var 4) "parts") [.assign (.sub (.attr (.var 0) "aside") (.sub (.var 5) (.lit (.int 0)))) (.bin .Sub (.sub (.attr (.var 0) "aside") (.sub (.var 5) (.lit (.int 0)))) (.sub (.var 5) (.lit (.int 1))))]) QN QR EE V H := by
  subst hV
  rw [Zba]
  refine ⟨hmd, ?_⟩
  refine Zfg hA (ib.pact hj ha) rfl fun z ⟨hzd, ts, hts, hl⟩ => ?_
  refine Zcw (xs := ts.map .ref) (by simp only [Zan]; rw [hts]) (fun m V' H' => (∃ pr, V' = [some (.ref b), v1, v2, v3, some (.ref a), pr]) ∧ IsBook o H' b f s p as (payAll (x.parts.take m) B) ∧ Fr1 o H o H' ∧ KD o H H') ⟨⟨_, rfl⟩, by rw [List.take_zero]; exact ib, .refl, fun _ _ => rfl⟩ ?_
  rintro I hI m V' H' ⟨⟨pr, rfl⟩, ib', fr', kd'⟩
  obtain ⟨sm, hp⟩ := SameB.payAll (l := x.parts.take m) (B := B) fun e he => able e (List.mem_of_mem_take he)
  refine ⟨kd' z hzd, fun hlen => ?_, fun y hy => ?_⟩
  · rw [hlen, List.length_map, Zc5 hl, List.take_length] at ib'
    exact q H' pr ib' fr' kd'
  rw [List.getElem?_map, Option.map_eq_some_iff] at hy
  obtain ⟨t, ht, rfl⟩ := hy
  obtain ⟨e, he, htd, htt⟩ := Zds hl ht
  have htt' : H' t = some (.tuple [.str e.1, .int e.2]) := by rw [kd' t htd]; exact htt
  have hsplit : x.parts.take (m + 1) = x.parts.take m ++ [e] := by rw [List.take_add_one, he]; rfl
  refine ⟨show 5 < 6 by decide, ?_⟩
  refine w_st fun K nx => ?_
  show wpS _ _ _ _ _ [some (.ref b), v1, v2, v3, some (.ref a), some (.ref t)] _
  rw [Zaj, Zaw, Zau]
  refine Zd1 hA ib' rfl ?_
  rw [Zau, Zae]
  show wpX _ (.lit (.int 0)) _ _ _ _
  rw [Zag]
  refine Zit htt' ?_
  have hab : hs (payAll (x.parts.take m) B).aside e.1 = true := by rw [sm.ah]; exact able e (List.mem_of_getElem? he)
  refine Zfb ib' (Zgf hab) ?_
  rw [Zau, Zae]
  show wpX _ (.lit (.int 1)) _ _ _ _
  rw [Zag]
  refine Zq7 htt' ?_
  rw [Zdd, tsub]
  refine Zd1 hA ib' rfl ?_
  rw [Zau, Zae]
  show wpX _ (.lit (.int 0)) _ _ _ _
  rw [Zag]
  refine Zit htt' ?_
  obtain ⟨ep, hd⟩ := ib'.hs
  show match H' s with | some (.dict _ _) => _ | _ => False
  rw [hd]
  refine ⟨by rw [Zhp, sm.al]; exact hz, fun ep' => nx _ _ (hI _ _ _ ⟨⟨_, rfl⟩, ?_, fr'.trans (Zi7 (by rw [ib'.os]; simp)), kd'.trans (KD.up ib'.os (by intro h; cases h))⟩)⟩
  rw [Zg5, hsplit, Zg6]
  exact ib'.setAside ep' _
noncomputable def gainAll : List (Str × Int) → Bk → Bk
  | [], B => B
  | e :: l, B => gainAll l { B with free := pt B.free e.1 ((lk B.free e.1).getD 0 + e.2) }
theorem Zgh {e : Str × Int} : ∀ {l : List (Str × Int)} {B : Bk}, gainAll (l ++ [e]) B = { gainAll l B with free := pt (gainAll l B).free e.1 ((lk (gainAll l B).free e.1).getD 0 + e.2) }
  | [], B => rfl
  | _ :: l, B => Zgh (l := l)
theorem SameB.gainAll : ∀ {l : List (Str × Int)} {B : Bk}, (∀ e ∈ l, hs B.free e.1 = true) → SameB B (Mine.gainAll l B) ∧ (Mine.gainAll l B).pacts = B.pacts
  | [], B, _ => ⟨.refl, rfl⟩
  | e :: l, B, h => by
    have h0 := h e List.mem_cons_self
    have s1 : SameB B { B with free := pt B.free e.1 ((lk B.free e.1).getD 0 + e.2) } := ⟨rfl, (Zed h0).1, rfl, (Zed h0).2, fun _ => rfl⟩
    obtain ⟨s2, p2⟩ := SameB.gainAll (l := l) (B := { B with free := pt B.free e.1 ((lk B.free e.1).getD 0 + e.2) }) fun e' he => by rw [s1.fh]; exact h e' (List.mem_cons_of_mem _ he)
    exact ⟨s1.trans s2, p2⟩
theorem Zjx {g : Gx} {V : VV} {QN : VV → Zaa → Prop} {QR : AV → Zaa → Prop} {EE : String → VV → Zaa → Prop} {v1 v2 v3 v5 : Option AV} (hA : g.c.P.attrs = BK.attrs) (hmd : g.md = true) (ib : IsBook o H b f s p as B) (hj : B.pacts[j]? = some x) (ha : as[j]? = some a) (hV : V = [some (.ref b), v1, v2, v3, some (.ref a), v5]) (hz : B.free.length ≤ sizeLine) (able : ∀ e ∈ x.gains, hs B.free e.1 = true)
    (q : ∀ H' v5', IsBook o H' b f s p as (gainAll x.gains B) → Fr1 o H o H' → KD o H H' → QN [some (.ref b), v1, v2, v3, some (.ref a), v5'] H') :
    wpS g (.for (.var 5) (.attr (.var 4) "gains") [.assign (.sub (.attr (.var 0) "free") (.sub (.var 5) (.lit (.int 0)))) (.bin .Add (.sub (.attr (.var 0) "free") (.sub (.var 5) (.lit (.int 0)))) (.sub (.var 5) (.lit (.int 1))))]) QN QR EE V H := by
  subst hV
  rw [Zba]
  refine ⟨hmd, ?_⟩
  refine Zq8 hA (ib.pact hj ha) rfl fun z ⟨hzd, ts, hts, hl⟩ => ?_
  refine Zcw (xs := ts.map .ref) (by simp only [Zan]; rw [hts]) (fun m V' H' => (∃ pr, V' = [some (.ref b), v1, v2, v3, some (.ref a), pr]) ∧ IsBook o H' b f s p as (gainAll (x.gains.take m) B) ∧ Fr1 o H o H' ∧ KD o H H') ⟨⟨_, rfl⟩, by rw [List.take_zero]; exact ib, .refl, fun _ _ => rfl⟩ ?_
  rintro I hI m V' H' ⟨⟨pr, rfl⟩, ib', fr', kd'⟩
  obtain ⟨sm, hp⟩ := SameB.gainAll (l := x.gains.take m) (B := B) fun e he => able e (List.mem_of_mem_take he)
  refine ⟨kd' z hzd, fun hlen => ?_, fun y hy => ?_⟩
  · rw [hlen, List.length_map, Zc5 hl, List.take_length] at ib'
    exact q H' pr ib' fr' kd'
  rw [List.getElem?_map, Option.map_eq_some_iff] at hy
  obtain ⟨t, ht, rfl⟩ := hy
  obtain ⟨e, he, htd, htt⟩ := Zds hl ht
  have htt' : H' t = some (.tuple [.str e.1, .int e.2]) := by rw [kd' t htd]; exact htt
  have hsplit : x.gains.take (m + 1) = x.gains.take m ++ [e] := by rw [List.take_add_one, he]; rfl
  refine ⟨show 5 < 6 by decide, ?_⟩
  refine w_st fun K nx => ?_
  show wpS _ _ _ _ _ [some (.ref b), v1, v2, v3, some (.ref a), some (.ref t)] _
  rw [Zaj, Zaw, Zau]
  refine Zdc hA ib' rfl ?_
  rw [Zau, Zae]
  show wpX _ (.lit (.int 0)) _ _ _ _
  rw [Zag]
  refine Zit htt' ?_
  have hab : hs (gainAll (x.gains.take m) B).free e.1 = true := by rw [sm.fh]; exact able e (List.mem_of_getElem? he)
  refine Zel ib' (Zgf hab) ?_
  rw [Zau, Zae]
  show wpX _ (.lit (.int 1)) _ _ _ _
  rw [Zag]
  refine Zq7 htt' ?_
  rw [Zb8, tsub]
  refine Zdc hA ib' rfl ?_
  rw [Zau, Zae]
  show wpX _ (.lit (.int 0)) _ _ _ _
  rw [Zag]
  refine Zit htt' ?_
  obtain ⟨ep, hd⟩ := ib'.hf
  show match H' f with | some (.dict _ _) => _ | _ => False
  rw [hd]
  refine ⟨by rw [Zhp, sm.fl]; exact hz, fun ep' => nx _ _ (hI _ _ _ ⟨⟨_, rfl⟩, ?_, fr'.trans (Zi7 (by rw [ib'.of]; simp)), kd'.trans (KD.up ib'.of (by intro h; cases h))⟩)⟩
  rw [Zg5, hsplit, Zgh]
  exact ib'.setFree ep' _
theorem Zr2 {g : Gx} {V : VV} {QN : VV → Zaa → Prop} {QR : AV → Zaa → Prop} {EE : String → VV → Zaa → Prop} {i : Nat} {st : Sta} {rest : List S} (hA : g.c.P.attrs = BK.attrs) (ib : IsBook o H b f s p as B) (hj : B.pacts[j]? = some x) (ha : as[j]? = some a) (hV : V[i]? = some (some (.ref a)))
    (q : ∀ o' H', IsBook o' H' b f s p as { B with pacts := B.pacts.set j { x with inside := [], state := st } } → Fr1 o H o' H' → wpSs g rest QN QR EE V H') : wpSs g (.assign (.attr (.var i) "inside") (.dict [] []) :: .assign (.attr (.var i) "state") (.lit (.str st.str)) :: rest) QN QR EE V H := by
  have hC : ∀ n, BK.attrs.contains ("Pact", n) = true → g.c.P.attrs.contains ("Pact", n) = true := fun n h => by rw [hA]; exact h
  obtain ⟨h0, pa, ga, ne, ins, ep, h, h1, h2, h3, h4, h5, h6⟩ := ib.pact hj ha
  refine w_st fun K nx => ?_
  dsimp only [Zaj, Zap]
  intro w hw
  have haw : a ≠ w := fun e => by rw [e, hw] at h; cases h
  refine st_a hV (hC _ rfl) (by rw [Zab haw]; exact h) (by exact (show 7 ≤ 100 by decide)) (nx _ _ ?_)
  refine w_st fun K nx => ?_
  dsimp only [Zaj, Zag]
  refine st_a hV (hC _ rfl) Zad (by exact (show 7 ≤ 100 by decide)) (nx _ _ ?_)
  have kb0 : KB (fun _ => True) o (fun y => if y = w then some (.inside j) else o y) H (up H w (.dict 0 [])) := fun y r v _ hr hv _ => by
    have : y ≠ w := fun e => by rw [e, hw] at hv; cases hv
    exact ⟨(if_neg this).trans hr, by rw [Zab this]; exact hv⟩
  have ib1 := ib.congr kb0
  generalize ho : (fun y => if y = w then some (Role.inside j) else o y) = o' at kb0 ib1
  have hoa : o' a = some (.pact j) := by rw [← ho]; exact (if_neg haw).trans h0
  have how : o' w = some (.inside j) := by rw [← ho]; exact if_pos rfl
  have kb1 : ∀ {X : Zaa} {y : AObj}, KB (fun r => r ≠ .pact j ∧ r ≠ .inside j) o' o' X (up X a y) := Ziy fun r hr => by rw [hoa] at hr; cases hr; exact fun z => z.1 rfl
  have kbd : ∀ {X : Zaa} {y : AObj}, KB (fun r => r = .data) o' o' X (up X a y) := Ziy fun r hr => by rw [hoa] at hr; cases hr; exact fun z => by cases z
  have kb0' : KB (fun r => r = .data) o o' H (up H w (.dict 0 [])) := fun y r v _ hr hv hb => kb0 y r v trivial hr hv hb
  refine q o' _ (ib1.setPact hj ha (fun y r v hr ho hv hb => kb1 y r v hr ho (kb1 y r v hr ho hv hb).2 hb) (⟨hoa, pa, ga, ne, w, 0, Zad, ((h1.congr kb0' rfl).congr kbd rfl).congr kbd rfl, ((h2.congr kb0' rfl).congr kbd rfl).congr kbd rfl, (kb0' ne _ _ rfl h3 h4 rfl).1, ?_, how, ?_⟩ : IsPact o' _ j a { x with inside := [], state := st }) rfl) ⟨fun y v hy ho' => ?_, fun y h => Zc3 (Zc3 (Zc3 h))⟩
  · have := kb0' ne _ _ rfl h3 h4 rfl
    have hna : ne ≠ a := Zby this.1 hoa (by intro z; cases z)
    rw [Zab hna, Zab hna]; exact this.2
  · rw [Zab haw.symm, Zab haw.symm, Zad]; rfl
  · have hyw : y ≠ w := fun e => by rw [e, hw] at hy; cases hy
    have hya : y ≠ a := fun e => by rw [e, h0] at ho'; cases ho'
    exact ⟨by rw [Zab hya, Zab hya, Zab hyw]; exact hy, by rw [← ho]; exact (if_neg hyw).trans ho'⟩
end
noncomputable def Zud (B : Bk) (j : Nat) (x : Pc) : Bk := { gainAll x.gains (payAll x.parts B) with pacts := B.pacts.set j { x with inside := [], state := .dn } }
noncomputable def Zcq : List Str → Bk → Bk
  | [], B => B
  | k :: r, B => Zcq r (match pAt B.pacts k with | some e => Zud B e.1 e.2 | none => B)
theorem Zjq : ∀ {ps : List Pc} {j : Nat} {x x' : Pc}, ps[j]? = some x → x'.name = x.name → (ps.set j x').map (·.name) = ps.map (·.name)
  | q :: r, 0, x, x', h, e => by cases h; simp [e]
  | q :: r, j + 1, x, x', h, e => by rw [List.set_cons_succ, List.map_cons, List.map_cons, Zjq (ps := r) (j := j) h e]
  | [], _, _, _, h, _ => by cases h
theorem Zoi : ∀ {ps : List Pc} {k : Str}, k ∈ ps.map (·.name) → ∃ e, pAt ps k = some e
  | q :: r, k, h => by
    unfold pAt
    by_cases e : q.name = k
    · exact ⟨_, if_pos e⟩
    · rw [if_neg e]
      rw [List.map_cons] at h
      obtain ⟨w, hw⟩ := Zoi (ps := r) ((List.mem_cons.mp h).resolve_left fun z => e z.symm)
      rw [hw]; exact ⟨_, rfl⟩
theorem BkOK.ends {B : Bk} {j : Nat} {x : Pc} (ok : BkOK B) (hj : B.pacts[j]? = some x) : SameB B (gainAll x.gains (payAll x.parts B)) ∧ (gainAll x.gains (payAll x.parts B)).pacts = B.pacts ∧ SameB B (payAll x.parts B) ∧ (payAll x.parts B).pacts = B.pacts := by
  obtain ⟨s1, p1⟩ := SameB.payAll (l := x.parts) (B := B) fun e he => ok.both _ (ok.purse j x hj e (.inl he))
  obtain ⟨s2, p2⟩ := SameB.gainAll (l := x.gains) (B := payAll x.parts B) fun e he => by rw [s1.fh]; exact ok.purse j x hj e (.inr he)
  exact ⟨s1.trans s2, p2.trans p1, s1, p1⟩
theorem BkOK.done {B : Bk} {j : Nat} {x : Pc} (ok : BkOK B) (hj : B.pacts[j]? = some x) : BkOK (Zud B j x) := by
  obtain ⟨sm, _⟩ := ok.ends hj
  refine ok.keep ⟨sm.day, sm.fl, sm.al, sm.fh, sm.ah⟩ List.length_set (fun m y hy => ?_) fun m y hy => ?_
  · rcases Ziq hy with ⟨rfl, rfl, _⟩ | ⟨_, h⟩
    · exact ⟨x, hj, rfl, rfl, rfl, fun k hk => by cases hk⟩
    · exact ⟨y, h, rfl, rfl, rfl, ok.part m y h⟩
  · rcases Ziq hy with ⟨rfl, rfl, _⟩ | ⟨_, h⟩
    · exact Nat.zero_le _
    · exact (ok.inl m y h).1
inductive SetI (B : Bk) (o : Addr → Option Role) (H : Zaa) (b f s p : Addr) (as : List Addr) (g : List Str) (v1 : Option AV) (z : Addr) (m : Nat) (V' : VV) (H' : Zaa) : Prop
  | mk (o' : Addr → Option Role) (B' : Bk) (p3 p4 p5 : Option AV) (hV : V' = [some (.ref b), v1, some (.ref z), p3, p4, p5]) (ib : IsBook o' H' b f s p as B') (ok : BkOK B') (fr : Fr1 o H o' H') (hz : H' z = some (.list (txs g))) (zo : o' z = none) (hn : B'.pacts.map (·.name) = B.pacts.map (·.name)) (hR : Zcq (g.drop m) B' = Zcq g B) : SetI B o H b f s p as g v1 z m V' H'
section
variable {c : Cx} {P : Pg} (G : Gd c P) (U : HasP P) {n : Nat} {md : Bool} {Q : AV → Zaa → Prop} {E : String → Zaa → Prop} {H : Zaa} {o : Addr → Option Role} {b f s p a : Addr} {as : List Addr} {B : Bk} {j : Nat} {x : Pc}
theorem IsBook.extZ {H' : Zaa} {z : Addr} (ib : IsBook o H b f s p as B) (hE : Ext H H') (hz : H z = none) : ∃ o', IsBook o' H' b f s p as B ∧ Fr1 o H o' H' ∧ o' z = none :=
  ⟨fun a => if a = z then none else o a, ib.congr fun a r v _ hr hv _ => ⟨(if_neg (fun e => by rw [e, hz] at hv; cases hv)).trans hr, hE a v hv⟩, ⟨fun a v h k => ⟨hE a v h, (if_neg (fun e => by rw [e, hz] at h; cases h)).trans k⟩, fun a h => hE.none h⟩, if_pos rfl⟩
include G U
set_option tactic.hygienic true in
theorem Zn0 (hU : P.fns.lookup "Book.settle" = some BK.f_Book_settle) (hU0 : P.fns.lookup "Book.standing" = some BK.f_Book_standing) (hU1 : P.fns.lookup "Pact.is_full" = some BK.f_Pact_is_full) (g1 : P.fns.lookup "greatest" = some BK.f_greatest) (g2 : P.fns.lookup "are_met" = some BK.f_are_met) (g3 : P.fns.lookup "table_of" = some BK.f_table_of)
    (ib : IsBook o H b f s p as B) (ok : BkOK B) (nd : (B.pacts.map (·.name)).Nodup)
    (q : ∀ z g o' H', H z = none → o' z = none → H' z = some (.list (txs g)) → Grt (Zcv B.pacts) (ndB B) (Zf5 B.pacts) g → IsBook o' H' b f s p as (Zcq g B) → Fr1 o H o' H' → Q (.ref z) H') : CallOK c (n + 3) true "Book.settle" [.ref b] Q E H := by
  refine G.call (F := BK.f_Book_settle) hU rfl ?_
  have hA : c.P.attrs = BK.attrs := by rw [G.hP, U.a.attrs]
  have hM : c.P.meths = BK.meths := by rw [G.hP, U.a.meths]
  show wpSs _ _ _ _ _ [some (.ref b), none, none, none, none, none] _
  refine w_st fun K nx => ?_
  dsimp only [Zaj]
  refine Zbk hM (by decide) (by decide) ib rfl ?_
  dsimp only [Zaf]
  refine Zkp G U hU0 hU1 ib ok nd fun zt r d e o1 H1 hzt zto ro dO eo ht hr hd he ib1 f1 => ?_
  refine ⟨show 1 < 6 by decide, nx _ _ ?_⟩
  refine w_st fun K nx => ?_
  show wpS _ _ _ _ _ [some (.ref b), some (.ref zt), none, none, none, none] _
  dsimp only [Zaj, tv, List.length_cons, List.length_nil, Nat.reduceAdd, List.set_cons_succ, List.set_cons_zero, Zal, Zac, Zaf, Zau, Zag, Zae, List.getElem?_cons_succ, v_0]
  refine Zey (v := .ref r) ht (by decide) rfl (by simp) ?_
  refine Zey (v := .ref d) ht (by decide) rfl (by simp) ?_
  refine Zey (v := .ref e) ht (by decide) rfl (by simp) ?_
  have lp := ok.len
  refine Zld G g1 g2 g3 hr hd he (Nat.le_trans Zjy (by exact Nat.le_trans (by assumption) (by decide))) (Nat.le_trans Zj5 (by exact Nat.le_trans (by assumption) (by decide))) fun z H2 g hE hz0 hz2 hg => ?_
  obtain ⟨o2, ib2, f2, zo2⟩ := ib1.extZ hE hz0
  have fr2 := f1.trans f2
  have hgn : ∀ k ∈ g, k ∈ B.pacts.map (·.name) := fun k hk => by
    have := hg.sub.subset hk
    unfold Zcv at this
    obtain ⟨y, h1, h2⟩ := List.mem_map.mp this
    rw [← h2]; exact List.mem_map_of_mem (List.mem_filter.mp h1).1
  refine ⟨by decide, nx _ _ ?_⟩
  refine w_st fun K nx => ?_
  dsimp only [Zba, Zae]
  refine ⟨rfl, ?_⟩
  show WFor _ _ (.ref z) _ _
  refine Zcw (xs := txs g) (by simp only [Zan]; rw [hz2]) (SetI B o H b f s p as g (some (.ref zt)) z) ⟨o2, B, none, none, none, rfl, ib2, ok, fr2, hz2, zo2, rfl, rfl⟩ ?_
  rintro I hI m V' H' ⟨o', B', p3, p4, p5, rfl, ib', ok', fr', hz', zo', hn', hR'⟩
  refine ⟨by show H' z = _; rw [hz', hz2], fun hm => ?_, fun y hy => ?_⟩
  · rw [Za2] at hm
    rw [hm, List.drop_length] at hR'
    exact nx _ _ (q z g o' H' (f1.gr z hz0) zo' hz' hg (hR' ▸ ib') fr')
  obtain ⟨k, rfl, hk⟩ := Zeb hy
  have hdrop : g.drop m = k :: g.drop (m + 1) := by
    obtain ⟨hlt, hee⟩ := List.getElem?_eq_some_iff.mp hk
    rw [← hee]; exact List.drop_eq_getElem_cons hlt
  obtain ⟨w, hw⟩ := Zoi (ps := B'.pacts) (k := k) (by rw [hn']; exact hgn k (List.mem_of_getElem? hk))
  obtain ⟨j, x⟩ := w
  have hj := (Zfw hw).1
  rw [hdrop, Zcq, hw] at hR'
  obtain ⟨a, ha, _⟩ := Zcr ib'.ps hj
  obtain ⟨s2, q2, s1, q1⟩ := ok'.ends hj
  refine ⟨show 3 < 6 by decide, ?_⟩
  refine w_st fun K2 nx2 => ?_
  show wpS _ _ _ _ _ [some (.ref b), some (.ref zt), some (.ref z), some (.str k), p4, p5] _
  dsimp only [Zaj, Zau]
  refine Zco hA ib' rfl ?_
  dsimp only [Zae]
  refine Zfa ib' hw fun a' ha' _ => ?_
  rw [ha] at ha'; cases ha'
  refine ⟨show 4 < 6 by decide, nx2 _ _ ?_⟩
  refine w_st fun K2 nx2 => ?_
  refine Zkx hA rfl ib' hj ha rfl ok'.sz.2 (fun e he => ok'.both _ (ok'.purse j x hj e (.inl he))) fun H3 v5 ib3 f3 _ => nx2 _ _ ?_
  refine w_st fun K2 nx2 => ?_
  refine Zjx hA rfl ib3 (by rw [q1]; exact hj) ha rfl (by rw [s1.fl]; exact ok'.sz.1) (fun e he => by rw [s1.fh]; exact ok'.purse j x hj e (.inr he)) fun H4 v5' ib4 f4 _ => nx2 _ _ ?_
  refine Zr2 (i := 4) (st := .dn) hA ib4 (by rw [q2]; exact hj) ha rfl fun o5 H5 ib5 f5 => ?_
  rw [q2] at ib5
  have f35 := (f3.trans f4).trans f5
  obtain ⟨hz5, zo5⟩ := f35.old _ _ hz' zo'
  exact hI _ _ _ ⟨o5, Zud B' j x, _, _, _, rfl, ib5, ok'.done hj, fr'.trans f35, hz5, zo5, (Zjq (x' := { x with inside := [], state := .dn }) hj rfl).trans hn', hR'⟩
end
end Mine
end
section
open PySem PySem.W PyProof.Rows PySem.Spec PySem.SeqAt PySem.Calls
namespace Mine
abbrev pairsH (H : Zaa) (ts : List Addr) (l : List (AV × AV)) : Prop := Zfd (fun _ => none) H ts l
theorem pairsH.in {o : Addr → Option Role} {H H₂ : Zaa} {b : Addr} {B : Bk} (hb : H b = some (.book B)) (hold : ∀ a x, H a = some x → a ≠ b → H₂ a = some x ∧ o a = none) : ∀ {ts : List Addr} {l : List (AV × AV)}, pairsH H ts l → Zfd o H₂ ts l
  | [], [], _ => trivial
  | t :: ts, e :: l, h => by
    have hne : t ≠ b := fun z => by have := h.1.2.1; rw [z, hb] at this; cases this
    exact ⟨⟨(hold t _ h.1.2.1 hne).2, (hold t _ h.1.2.1 hne).1, h.1.2.2⟩, pairsH.in hb hold h.2⟩
  | [], _ :: _, h => h.elim
  | _ :: _, [], h => h.elim
section
variable {c : Cx} {P : Pg} (G : Gd c P) (U : HasP P) {n : Nat} {md : Bool} {Q : AV → Zaa → Prop} {E : String → Zaa → Prop} {H : Zaa} {b : Addr} {B : Bk}
theorem Zk5 {a : Addr} {xs : List AV} (hb : H b = some (.book B)) (h : H a = some (.list xs)) : a ≠ b := fun z => by rw [z, hb] at h; cases h
include G U
theorem Zqc {v w : AV} (hU : P.fns.lookup "Book.set_aside" = some BK.f_Book_set_aside) (hU2 : P.fns.lookup "Pact.part_of" = some BK.f_Pact_part_of) (hb : H b = some (.book B)) (kv : Kv v) (kw : Kv w) (ok : BkOK B) (q : Ends (Zfq B v w) (fun B' => Q .none (up H b (.book B'))) (fun cl => E cl H)) : CallOK c (n + 4) true "Book.set_aside" [.ref b, v, w] Q E H := by
  refine Zbo hb fun H₂ o f s p as ib hold => Zqb G U hU hU2 ib kv.kn kw.kn ok ?_
  revert q
  cases Zfq B v w with
  | ok B' => exact fun q H' ib' fr => ⟨o, f, s, p, as, B', ib', fr, .inl ⟨(fun _ h => by cases h), q⟩⟩
  | error cl => exact fun q => ⟨o, f, s, p, as, B, ib, .refl, by rw [Zea hb]; exact q⟩
theorem Zsf {v last : AV} {pl gl nl : Addr} {ts us : List Addr} {pL gL : List (AV × AV)} {nL : List AV} (hU : P.fns.lookup "Book.tell" = some BK.f_Book_tell) (hU1 : P.fns.lookup "Book.pairs_of" = some BK.f_Book_pairs_of) (hU2 : P.fns.lookup "Book.needs_of" = some BK.f_Book_needs_of) (hU3 : P.fns.lookup "Pact.__init__" = some BK.f_Pact___init__) (hcl : c.P.classes.contains "Pact" = true)
    (hb : H b = some (.book B)) (ok : BkOK B) (kv : Kv v) (kl : Kv last) (hp : H pl = some (.list (ts.map .ref))) (hpg : pairsH H ts pL) (hg : H gl = some (.list (us.map .ref))) (hgg : pairsH H us gL) (hn : H nl = some (.list nL)) (hng : ∀ v ∈ nL, Kv v) (l1 : pL.length ≤ 1000) (l2 : gL.length ≤ 1000) (l3 : nL.length ≤ 1000)
    (q : Ends (Zdl B v pL gL nL last) (fun B' => Q .none (up H b (.book B'))) (fun cl => E cl H)) : CallOK c (n + 4) true "Book.tell" [.ref b, v, .ref pl, .ref gl, .ref nl, last] Q E H := by
  refine Zbo hb fun H₂ o f s p as ib hold => ?_
  obtain ⟨hp', hpo⟩ := hold _ _ hp (Zk5 hb hp)
  obtain ⟨hg', hgo⟩ := hold _ _ hg (Zk5 hb hg)
  obtain ⟨hn', hno⟩ := hold _ _ hn (Zk5 hb hn)
  refine Zqr G U hU hU1 hU2 hU3 hcl ib ok kv kl hp' hpo (hpg.in hb hold) hg' hgo (hgg.in hb hold) hn' hno hng l1 l2 l3 ?_
  revert q
  cases Zdl B v pL gL nL last with
  | ok B' => exact fun q o' H' as' ib' fr => ⟨o', f, s, p, as', B', ib', fr, .inl ⟨(fun _ h => by cases h), q⟩⟩
  | error cl => exact fun q o' H' ib' fr => ⟨o', f, s, p, as, B, ib', fr, by rw [Zea hb]; exact q⟩
theorem Zxm {w : AV} (hU0 : P.fns.lookup "Book.call_off" = some BK.f_Book_call_off) (hU : P.fns.lookup "Book.dragged" = some BK.f_Book_dragged) (hU1 : P.fns.lookup "Book.first_dragged" = some BK.f_Book_first_dragged) (hU2 : P.fns.lookup "Book.fell" = some BK.f_Book_fell) (hU3 : P.fns.lookup "Book.given_back" = some BK.f_Book_given_back)
    (hb : H b = some (.book B)) (ok : BkOK B) (kw : Kv w) (q : match offQ B w with | .ok r => ∀ z, H z = none → Q (.ref z) (up (up H b (.book r.1)) z (.list (txs r.2))) | .error cl => E cl H) : CallOK c (n + 4) true "Book.call_off" [.ref b, w] Q E H := by
  refine Zbo hb fun H₂ o f s p as ib hold => Zto G U hU0 hU hU1 hU2 hU3 ib ok kw.kn ?_
  revert q
  cases offQ B w with
  | ok r => exact fun q z o' H' hz ho hz' ib' fr => ⟨o', f, s, p, as, r.1, ib', fr, .inr ⟨z, _, rfl, Zdy G U.a hb ib hold hz, hz', ho, q z (Zdy G U.a hb ib hold hz)⟩⟩
  | error cl => exact fun q => ⟨o, f, s, p, as, B, ib, .refl, by rw [Zea hb]; exact q⟩
theorem Zlw (hU : P.fns.lookup "Book.settle" = some BK.f_Book_settle) (hU0 : P.fns.lookup "Book.standing" = some BK.f_Book_standing) (hU1 : P.fns.lookup "Pact.is_full" = some BK.f_Pact_is_full) (g1 : P.fns.lookup "greatest" = some BK.f_greatest) (g2 : P.fns.lookup "are_met" = some BK.f_are_met) (g3 : P.fns.lookup "table_of" = some BK.f_table_of)
    (hb : H b = some (.book B)) (ok : BkOK B) (nd : (B.pacts.map (·.name)).Nodup) (q : ∀ z g, H z = none → Grt (Zcv B.pacts) (ndB B) (Zf5 B.pacts) g → Q (.ref z) (up (up H b (.book (Zcq g B))) z (.list (txs g)))) : CallOK c (n + 3) true "Book.settle" [.ref b] Q E H := by
  refine Zbo hb fun H₂ o f s p as ib hold => Zn0 G U hU hU0 hU1 g1 g2 g3 ib ok nd fun z g o' H' hz ho hz' hg ib' fr => ?_
  exact ⟨o', f, s, p, as, _, ib', fr, .inr ⟨z, _, rfl, Zdy G U.a hb ib hold hz, hz', ho, q z g (Zdy G U.a hb ib hold hz) hg⟩⟩
theorem Zko {v : AV} (hU : P.fns.lookup "Book.state_of" = some BK.f_Book_state_of) (hb : H b = some (.book B)) (kv : Kv v) (q : match Zcp B v with | some (j, x) => Q (.str x.state.str) H | none => E "NoPact" H) : CallOK c (n + 3) true "Book.state_of" [.ref b, v] Q E H := by
  refine Zbo hb fun H₂ o f s p as ib hold => Zjc G U hU ib kv.kn ?_
  revert q
  cases Zcp B v with
  | some e => exact fun q => ⟨o, f, s, p, as, B, ib, .refl, .inl ⟨(fun _ h => by cases h), by rw [Zea hb]; exact q⟩⟩
  | none => exact fun q => ⟨o, f, s, p, as, B, ib, .refl, by rw [Zea hb]; exact q⟩
end
end Mine
end
section
open PySem PySem.W PyProof.Rows PySem.Spec PySem.SeqAt PySem.Calls
namespace Mine
noncomputable def Zix (d : Int) (x : Pc) : Bool := x.state == .opn && decide (x.last < d)
noncomputable def late (d : Int) : Nat → Bk → Bk × List Str
  | 0, B => (B, [])
  | m + 1, B => match (late d m B).1.pacts[m]? with
    | some x => if Zix d x then (Zf3 (late d m B).1 m x, (late d m B).2 ++ [x.name]) else late d m B
    | none => late d m B
theorem Zo5 {d : Int} {m : Nat} {B : Bk} {x : Pc} (h : (late d m B).1.pacts[m]? = some x) : late d (m + 1) B = if Zix d x then (Zf3 (late d m B).1 m x, (late d m B).2 ++ [x.name]) else late d m B := by
  conv => lhs; unfold late
  rw [h]
theorem Zv5 {d : Int} {m : Nat} {B : Bk} (h : (late d m B).1.pacts[m]? = none) : late d (m + 1) B = late d m B := by
  conv => lhs; unfold late
  rw [h]
theorem Ztx {d : Int} {m : Nat} {B : Bk} : late d (m + 1) B = late d m B ∨ ∃ x, (late d m B).1.pacts[m]? = some x ∧ Zix d x = true ∧ late d (m + 1) B = (Zf3 (late d m B).1 m x, (late d m B).2 ++ [x.name]) := by
  cases h : (late d m B).1.pacts[m]? with
  | none => exact .inl (Zv5 h)
  | some x =>
    cases hx : Zix d x with
    | false => exact .inl (by rw [Zo5 h, hx, if_neg Bool.false_ne_true])
    | true => exact .inr ⟨x, rfl, hx, by rw [Zo5 h, if_pos hx]⟩
theorem Zo6 {d : Int} {B : Bk} (ok : BkOK B) : ∀ m, BkOK (late d m B).1 ∧ (late d m B).1.pacts.length = B.pacts.length ∧ (late d m B).2.length ≤ m ∧ (late d m B).1.day = B.day
  | 0 => ⟨ok, rfl, Nat.le_refl _, rfl⟩
  | m + 1 => by
    obtain ⟨h1, h2, h3, h4⟩ := Zo6 ok m
    rcases Ztx (d := d) (m := m) (B := B) with e | ⟨x, hx, _, e⟩
    · rw [e]; exact ⟨h1, h2, Nat.le_succ_of_le h3, h4⟩
    · rw [e]
      refine ⟨h1.fell hx, fell_len.trans h2, ?_, ?_⟩
      · show ((late d m B).2 ++ [x.name]).length ≤ m + 1
        rw [List.length_append]; exact Nat.succ_le_succ h3
      · exact (SameB.all (ins := x.inside) (l := x.parts) (h1.giveAble hx)).1.day.trans h4
noncomputable def Zxh (B : Bk) (i : Int) : Bk × List Str := Zcy B.pacts.length (late (B.day + i) B.pacts.length { B with day := B.day + i }).1 (late (B.day + i) B.pacts.length { B with day := B.day + i }).2
noncomputable def Zoe (B : Bk) (v : AV) : Except String (Bk × List Str) := if Zbv v = true ∧ ¬ Zc9 v < 1 then .ok (Zxh B (Zc9 v)) else .error "NoDay"
theorem BkOK.day {B : Bk} (ok : BkOK B) (d : Int) : BkOK { B with day := d } := ⟨ok.sz, ok.both, ok.len, ok.part, ok.inl, ok.purse⟩
section
variable {c : Cx} {P : Pg} (G : Gd c P) (U : HasP P) {n : Nat} {md : Bool} {Q : AV → Zaa → Prop} {E : String → Zaa → Prop} {H : Zaa} {o : Addr → Option Role} {b f s p a : Addr} {as : List Addr} {B : Bk} {j : Nat} {x : Pc}
inductive Zws (o : Addr → Option Role) (H : Zaa) (b f s p : Addr) (as : List Addr) (d : Int) (B : Bk) (v : AV) (z zv : Addr) (m : Nat) (V' : VV) (H' : Zaa) : Prop
  | mk (o' : Addr → Option Role) (pr : Option AV) (hV : V' = [some (.ref b), some v, some (.ref z), pr]) (ib : IsBook o' H' b f s p as (late d m B).1) (fr : Fr1 o H o' H') (hz : H' z = some (.list (txs (late d m B).2))) (ho : o' z = none) (hv : H' zv = some (.list (as.map .ref))) (hvo : o' zv = none) (hne : zv ≠ z) : Zws o H b f s p as d B v z zv m V' H'
include G U
theorem Zq6 {v : AV} (hU0 : P.fns.lookup "Book.pass_days" = some BK.f_Book_pass_days) (hU : P.fns.lookup "Book.dragged" = some BK.f_Book_dragged) (hU1 : P.fns.lookup "Book.first_dragged" = some BK.f_Book_first_dragged) (hU2 : P.fns.lookup "Book.fell" = some BK.f_Book_fell) (hU3 : P.fns.lookup "Book.given_back" = some BK.f_Book_given_back)
    (ib : IsBook o H b f s p as B) (ok : BkOK B) (hw : Kn H v)
    (q : match Zoe B v with | .ok r => ∀ z o' H', H z = none → o' z = none → H' z = some (.list (txs r.2)) → IsBook o' H' b f s p as r.1 → Fr1 o H o' H' → Q (.ref z) H' | .error cl => E cl H) : CallOK c (n + 4) true "Book.pass_days" [.ref b, v] Q E H := by
  refine G.call (F := BK.f_Book_pass_days) hU0 rfl ?_
  have hA : c.P.attrs = BK.attrs := by rw [G.hP, U.a.attrs]
  have hM : c.P.meths = BK.meths := by rw [G.hP, U.a.meths]
  show wpSs _ _ _ _ _ [some (.ref b), some v, none, none] _
  refine w_st fun K nx => ?_
  dsimp only [Zax, x_ao, Zat, Za9, Zal, Zac, Zae]
  show CallOK _ _ _ _ [v] _ _ _
  refine Ze5 G U.a hw ?_
  unfold Zoe at q
  cases hwb : Zbv v with
  | false =>
    rw [hwb, if_neg (fun z => Bool.false_ne_true z.1)] at q
    exact ⟨rfl, q⟩
  | true =>
  rw [hwb] at q
  cases v with
  | int i =>
    show wpAO _ false [_] _ _ _ _
    dsimp only [Za5, Zak, Zae]
    show wpX _ (.lit (.int 1)) _ _ _ _
    dsimp only [Zag, c_lt, Zai]
    by_cases hi : i < 1
    · rw [decide_eq_true hi]
      rw [if_neg (fun z => z.2 hi)] at q
      exact ⟨rfl, q⟩
    rw [decide_eq_false hi]
    rw [if_pos ⟨rfl, hi⟩] at q
    refine nx _ _ ?_
    refine w_st fun K nx => ?_
    dsimp only [Zaj, Zaw]
    refine Zp9 hA ib rfl ?_
    dsimp only [Zae]
    show wbin .Add (.int B.day) (.int i) _ _
    dsimp only [Zb8]
    refine st_a rfl (by rw [hA]; rfl) ib.hb (by exact (show 4 ≤ 100 by decide)) (nx _ _ ?_)
    have ib1 := ib.setDay (B.day + i)
    have f1 : Fr1 o H o (up H b (.inst "Book" [("day", .int (B.day + i)), ("free", .ref f), ("aside", .ref s), ("pacts", .ref p)])) := Zi7 (by rw [ib.ob]; simp)
    show wpSs _ _ _ _ _ _ (up H b (.inst "Book" [("day", .int (B.day + i)), ("free", .ref f), ("aside", .ref s), ("pacts", .ref p)]))
    generalize up H b (.inst "Book" [("day", .int (B.day + i)), ("free", .ref f), ("aside", .ref s), ("pacts", .ref p)]) = H1 at ib1 f1
    refine w_st fun K nx => ?_
    dsimp only [Zaj, Zam, Zaf]
    intro z hz
    refine ⟨show 2 < 4 by decide, nx _ _ ?_⟩
    obtain ⟨ib2, f2⟩ := ib1.fresh hz (.list [])
    have hz2 : up H1 z (.list []) z = some (.list []) := Zad
    have hzo : (fun a => if a = z then none else o a) z = (none : Option Role) := if_pos rfl
    generalize (fun a => if a = z then none else o a) = o2 at ib2 f2 hzo
    generalize up H1 z (.list []) = H2 at ib2 f2 hz2
    have hz0 : H z = none := f1.gr z hz
    refine w_st fun K nx => ?_
    dsimp only [Zba]
    refine ⟨rfl, ?_⟩
    refine Zgx hA rfl ib2 ok.len rfl fun zv o3 H3 hzv0 hzvo hzv ib3 f3 => ?_
    obtain ⟨_, e2⟩ := Zf6 ib3.ps
    obtain ⟨hz3, hzo3⟩ := f3.old _ _ hz2 hzo
    have okd := Zo6 (d := B.day + i) (ok.day (B.day + i))
    refine Zcw (xs := as.map .ref) (by simp only [Zan, hzv]) (Zws o H b f s p as (B.day + i) { B with day := B.day + i } (.int i) z zv) ⟨o3, none, rfl, ib3, (f1.trans f2).trans f3, hz3, hzo3, hzv, hzvo, fun e => by rw [e, hz2] at hzv0; cases hzv0⟩ ?_
    rintro I hI m V' H' ⟨o', pr, rfl, ib', fr', hz', ho', hv', hvo', hne⟩
    obtain ⟨okm, hlen, hl2, hday⟩ := okd m
    refine ⟨hv'.trans hzv.symm, fun hm => ?_, fun y hy => ?_⟩
    · rw [List.length_map, e2] at hm
      subst hm
      refine nx _ _ ?_
      refine w_st fun K nx => ?_
      dsimp only [Za8]
      refine Zbk hM (by decide) (by decide) ib' rfl ?_
      dsimp only [Zac, Zae]
      show wpXs _ [] _ _ _ _
      dsimp only [Zaf]
      refine Zig G U hU hU1 hU2 hU3 ib' okm hz' ho' (Nat.le_trans hl2 (Nat.le_trans ok.len (by decide))) fun z' o'' H'' h1 h2 h3 h4 h5 => ?_
      rw [hlen] at h3 h4
      exact q z' o'' H'' (fr'.gr z' h1) h2 h3 h4 (fr'.trans h5)
    rw [List.getElem?_map, Option.map_eq_some_iff] at hy
    obtain ⟨a, ha, rfl⟩ := hy
    obtain ⟨x, hx⟩ : ∃ x, (late (B.day + i) m { B with day := B.day + i }).1.pacts[m]? = some x := ⟨_, List.getElem?_eq_getElem (by rw [hlen]; show m < B.pacts.length; rw [← e2]; exact (List.getElem?_eq_some_iff.mp ha).1)⟩
    have ip := ib'.pact hx ha
    refine ⟨show 3 < 4 by decide, ?_⟩
    refine w_st fun K2 nx2 => ?_
    show wpS _ _ _ _ _ [some (.ref b), some (.int i), some (.ref z), some (.ref a)] _
    have hstep := Zo5 hx
    have skip : Zix (B.day + i) x = false → I (m + 1) [some (.ref b), some (.int i), some (.ref z), some (.ref a)] H' := fun h => by
      rw [h, if_neg Bool.false_ne_true] at hstep
      exact hI _ _ _ ⟨o', _, rfl, by rw [hstep]; exact ib', fr', by rw [hstep]; exact hz', ho', hv', hvo', hne⟩
    dsimp only [Zax, x_ao, Zat, Zak]
    refine Zff hA ip rfl ?_
    (dsimp only [Zag, Zci, Zai]; rw [Zkq])
    cases hs : x.state == Sta.opn with
    | false => exact nx2 _ _ (skip (by unfold Zix; rw [hs]; rfl))
    | true =>
    show wpAO _ true [_] _ _ _ _
    dsimp only [Za5, Zak]
    refine Ztl hA ip rfl ?_
    refine Zp9 hA ib' rfl ?_
    rw [hday]
    show wcmp .Lt (.int x.last) (.int (B.day + i)) _ _
    dsimp only [c_lt, Zai]
    by_cases hlt : x.last < B.day + i
    · rw [decide_eq_true hlt]
      have hlb : Zix (B.day + i) x = true := by unfold Zix; rw [hs, decide_eq_true hlt]; rfl
      rw [hlb, if_pos rfl] at hstep
      show wpSs _ _ _ _ _ [some (.ref b), some (.int i), some (.ref z), some (.ref a)] _
      refine w_st fun K3 nx3 => ?_
      dsimp only [Zao, x_bm, Zae]
      refine ⟨?_, ?_⟩
      · show match H' z with | some (.list _) => _ | some (.dict _ _) => _ | _ => False
        rw [hz']; exact .inl rfl
      dsimp only [Zac]
      refine Zbk hM (by decide) (by decide) ib' rfl ?_
      dsimp only [Zac, Zae]
      show wpXs _ [] _ _ _ _
      refine Eq.mpr (Zaf) ?_
      refine Zlh G U hU2 hU3 ib' okm hx ha fun o4 H4 ib4 f4 => ?_
      obtain ⟨hz4, hzo4⟩ := f4.old _ _ hz' ho'
      obtain ⟨hv4, hvo4⟩ := f4.old _ _ hv' hvo'
      rw [Zaf]
      refine Zb5 hz4 (by rw [Za2]; exact Nat.le_trans hl2 (Nat.le_trans (Nat.le_of_lt (List.getElem?_eq_some_iff.mp hx).1) (Nat.le_trans (Nat.le_of_eq hlen) (Nat.le_trans ok.len (by decide))))) (nx3 _ _ (nx2 _ _ ?_))
      rw [Zdv]
      refine hI _ _ _ ⟨o4, _, rfl, by rw [hstep]; exact ib4.upN hzo4 _, ⟨fun y v hy hyo => ?_, fun y h => (fr'.trans f4).gr y (Zc3 h)⟩, by rw [hstep]; exact Zad, hzo4, by rw [Zab hne]; exact hv4, hvo4, hne⟩
      have := (fr'.trans f4).old y v hy hyo
      exact ⟨by rw [Zab (fun e => by rw [e, hz0] at hy; cases hy)]; exact this.1, this.2⟩
    · rw [decide_eq_false hlt]
      exact nx2 _ _ (skip (by unfold Zix; rw [decide_eq_false hlt, Bool.and_false]))
  | _ => cases hwb
end
end Mine
end
section
open PySem PySem.W PyProof.Rows PySem.Spec PySem.SeqAt PySem.Calls
namespace Mine
noncomputable def Zei (x : Pc) : List Str := (x.parts.filter fun e => decide (e.1 ∈ x.inside)).map (·.1)
theorem Zhw {Q : AV → Zaa → Prop} {stp : AV → (Option AV → Zaa → Prop) → Zaa → Prop} {v : AV} {H : Zaa} {xs : List AV} (hx : Zan H v = some xs) (hl : xs.length ≤ sizeLine) (f : AV → Option AV)
    (hs : ∀ x ∈ xs, ∀ nx : Option AV → Zaa → Prop, nx (f x) H → stp x nx H) (q : ∀ a, H a = none → Q (.ref a) (up H a (.list (xs.filterMap f)))) : Zkj Q stp v H := by
  refine ⟨xs, hx, hl, fun k acc H' => H' = H ∧ acc = (xs.take k).filterMap f, ⟨rfl, rfl⟩, ?_⟩
  rintro k acc H' ⟨rfl, rfl⟩
  refine ⟨?_, fun hk a ha => ?_, fun x hxk => ?_⟩
  · cases v with
    | ref a => exact rfl
    | _ => trivial
  · rw [hk, List.take_length]; exact q a ha
  · refine hs x (List.mem_of_getElem? hxk) _ ⟨rfl, ?_⟩
    rw [Zbw hxk, List.filterMap_append]
    cases hf : f x <;> simp [hf]
section
variable {c : Cx} {P : Pg} (G : Gd c P) (U : HasP P) {n : Nat} {md : Bool} {Q : AV → Zaa → Prop} {E : String → Zaa → Prop} {H : Zaa} {o : Addr → Option Role} {b f s p a : Addr} {as : List Addr} {B : Bk} {j : Nat} {x : Pc}
noncomputable def insF (H : Zaa) (x : Pc) : AV → Option AV
  | .ref t => (match H t with
    | some (.tuple [.str k, _]) => if k ∈ x.inside then some (.str k) else none
    | _ => none)
  | _ => none
theorem Zl9 {t : Addr} {k : Str} {i : Int} (h : H t = some (.tuple [.str k, .int i])) : insF H x (.ref t) = if k ∈ x.inside then some (.str k) else none := by
  show (match H t with | some (.tuple [.str k, _]) => if k ∈ x.inside then some (AV.str k) else none | _ => none) = _
  rw [h]
theorem Zma : ∀ {ts : List Addr} {l : List (Str × Int)}, pairsAV o H ts l → (ts.map AV.ref).filterMap (insF H x) = txs ((l.filter fun e => decide (e.1 ∈ x.inside)).map (·.1))
  | [], [], _ => rfl
  | t :: ts, e :: l, h => by
    rw [List.map_cons, List.filterMap_cons, Zl9 h.2.1, List.filter_cons, Zma h.2.2]
    by_cases hi : e.1 ∈ x.inside
    · rw [if_pos hi, if_pos (decide_eq_true hi)]; rfl
    · rw [if_neg hi, if_neg (by rw [decide_eq_false hi]; exact Bool.false_ne_true)]
  | [], _ :: _, h => h.elim
  | _ :: _, [], h => h.elim
include G U
theorem Zng {v : AV} (hU : P.fns.lookup "Book.inside_of" = some BK.f_Book_inside_of) (ib : IsBook o H b f s p as B) (ok : BkOK B) (hk : Kn H v)
    (q : match Zcp B v with | some (j, x) => ∀ z, H z = none → Q (.ref z) (up H z (.list (txs (Zei x)))) | none => E "NoPact" H) : CallOK c (n + 3) true "Book.inside_of" [.ref b, v] Q E H := by
  refine G.call (F := BK.f_Book_inside_of) hU rfl ?_
  have hA : c.P.attrs = BK.attrs := by rw [G.hP, U.a.attrs]
  have hM : c.P.meths = BK.meths := by rw [G.hP, U.a.meths]
  show wpSs _ _ _ _ _ [some (.ref b), some v, none] _
  refine w_st fun K nx => ?_
  rw [Zaj]
  refine Zbk hM (by decide) (by decide) ib rfl ?_
  rw [Zac, Zae]
  show wpXs _ [] _ _ _ _
  rw [Zaf]
  refine Zdh G U ib hk ?_
  cases e : Zcp B v with
  | none => rw [e] at q; exact q
  | some z =>
    obtain ⟨j, x⟩ := z
    rw [e] at q
    intro a ha ip
    have hj := Zfe e
    refine ⟨show 2 < 3 by decide, nx _ _ ?_⟩
    refine w_st fun K nx => ?_
    rw [Za8, Zbd]
    refine ⟨rfl, ?_⟩
    refine Zfg hA ip rfl fun zp ⟨hz, ts, hts, hl⟩ => ?_
    refine Zhw (xs := ts.map .ref) (by simp only [Zan, hts]) (by rw [List.length_map, Zc5 hl]; exact Nat.le_trans (ok.inl j x hj).2.1 (by decide)) (insF H x) (fun y hy nx hnx => ?_) fun w hw => ?_
    · obtain ⟨t, ht, rfl⟩ := List.mem_map.mp hy
      obtain ⟨m, hm, rfl⟩ := List.mem_iff_getElem.mp ht
      obtain ⟨e, he, htd, htt⟩ := Zds hl (List.getElem?_eq_getElem hm)
      rw [Zl9 htt] at hnx
      rw [if_neg (by decide), Zbt]
      refine Zpg (no := false) (k := e.1) hA ib hj ha ip rfl (fun Q' h => Zit htt h) ?_
      rw [Zai, show ((decide (e.1 ∈ x.inside)) != false) = decide (e.1 ∈ x.inside) from Bool.xor_false _]
      by_cases hi : e.1 ∈ x.inside
      · rw [decide_eq_true hi, if_pos rfl, Zau, Zae]
        rw [if_pos hi] at hnx
        exact Zit htt hnx
      · rw [decide_eq_false hi, if_neg Bool.false_ne_true]
        rw [if_neg hi] at hnx
        exact hnx
    · rw [Zma hl]
      exact q w hw
theorem Zl8 {v : AV} (hU : P.fns.lookup "Book.inside_of" = some BK.f_Book_inside_of) (hb : H b = some (.book B)) (ok : BkOK B) (kv : Kv v)
    (q : match Zcp B v with | some (j, x) => ∀ z, H z = none → Q (.ref z) (up H z (.list (txs (Zei x)))) | none => E "NoPact" H) : CallOK c (n + 3) true "Book.inside_of" [.ref b, v] Q E H := by
  refine Zbo hb fun H₂ o f s p as ib hold => Zng G U hU ib ok kv.kn ?_
  revert q
  cases Zcp B v with
  | some e =>
    intro q z hz
    have hz0 := Zdy G U.a hb ib hold hz
    obtain ⟨ib', f'⟩ := ib.fresh hz (.list (txs (Zei e.2)))
    exact ⟨_, f, s, p, as, B, ib', f', .inr ⟨z, _, rfl, hz0, Zad, if_pos rfl, by rw [Zea hb]; exact q z hz0⟩⟩
  | none => exact fun q => ⟨o, f, s, p, as, B, ib, .refl, by rw [Zea hb]; exact q⟩
theorem Zsx {v : AV} (hU : P.fns.lookup "Book.full" = some BK.f_Book_full) (hU2 : P.fns.lookup "Pact.is_full" = some BK.f_Pact_is_full) (hb : H b = some (.book B)) (ok : BkOK B) (kv : Kv v) (q : match Zcp B v with | some (j, x) => Q (.bool (Zgn x)) H | none => E "NoPact" H) : CallOK c (n + 3) true "Book.full" [.ref b, v] Q E H := by
  refine Zbo hb fun H₂ o f s p as ib hold => Zr1 G U hU hU2 ib ok kv.kn ?_
  revert q
  cases Zcp B v with
  | some e => exact fun q => ⟨o, f, s, p, as, B, ib, .refl, .inl ⟨(fun _ h => by cases h), by rw [Zea hb]; exact q⟩⟩
  | none => exact fun q => ⟨o, f, s, p, as, B, ib, .refl, by rw [Zea hb]; exact q⟩
theorem Zvb {v : AV} (hU0 : P.fns.lookup "Book.pass_days" = some BK.f_Book_pass_days) (hU : P.fns.lookup "Book.dragged" = some BK.f_Book_dragged) (hU1 : P.fns.lookup "Book.first_dragged" = some BK.f_Book_first_dragged) (hU2 : P.fns.lookup "Book.fell" = some BK.f_Book_fell) (hU3 : P.fns.lookup "Book.given_back" = some BK.f_Book_given_back)
    (hb : H b = some (.book B)) (ok : BkOK B) (kw : Kv v) (q : match Zoe B v with | .ok r => ∀ z, H z = none → Q (.ref z) (up (up H b (.book r.1)) z (.list (txs r.2))) | .error cl => E cl H) : CallOK c (n + 4) true "Book.pass_days" [.ref b, v] Q E H := by
  refine Zbo hb fun H₂ o f s p as ib hold => Zq6 G U hU0 hU hU1 hU2 hU3 ib ok kw.kn ?_
  revert q
  cases Zoe B v with
  | ok r => exact fun q z o' H' hz ho hz' ib' fr => ⟨o', f, s, p, as, r.1, ib', fr, .inr ⟨z, _, rfl, Zdy G U.a hb ib hold hz, hz', ho, q z (Zdy G U.a hb ib hold hz)⟩⟩
  | error cl => exact fun q => ⟨o, f, s, p, as, B, ib, .refl, by rw [Zea hb]; exact q⟩
omit U in
theorem Zqs {v a2 a3 a4 a5 : AV} (U : HasA P) (hU : P.fns.lookup "Book.tell" = some BK.f_Book_tell) (hk : Kn H v) (hn : Zbz v = false) (q : E "NoName" H) : CallOK c (n + 4) true "Book.tell" [.ref b, v, a2, a3, a4, a5] Q E H := by
  refine G.call (F := BK.f_Book_tell) hU rfl ?_
  show wpSs _ _ _ _ _ [some (.ref b), some v, some a2, some a3, some a4, some a5, none, none, none] _
  refine w_st fun K nx => ?_
  rw [Zao, Zal, Zac, Zae]
  show CallOK _ _ _ _ [v] _ _ _
  refine Ziw G U hk ?_
  rw [hn]
  exact q
end
end Mine
end
section
open PySem PySem.W PyProof.Rows PySem.Spec PySem.SeqAt PySem.Calls
namespace Mine
noncomputable def okB (B : Bk) : Bool := decide (B.free.length ≤ 1000) && decide (B.aside.length ≤ 1000) && (B.free.map (·.1) == B.aside.map (·.1)) && decide (B.pacts.length ≤ 100) &&
  B.pacts.all fun x => x.inside.all (fun k => (lk x.parts k).isSome) && decide (x.inside.length ≤ 100) && decide (x.parts.length ≤ 100) && decide (x.gains.length ≤ 100) && decide (x.needs.length ≤ 100) && x.parts.all (fun e => hs B.free e.1) && x.gains.all (fun e => hs B.free e.1)
theorem Zhn {l : List (Str × Int)} {k : Str} : hs l k = decide (k ∈ l.map (·.1)) := by
  unfold hs lk
  rw [Option.isSome_map, Bool.eq_iff_iff, List.find?_isSome]
  simp
theorem Zgc {B : Bk} (h : okB B = true) : BkOK B := by
  unfold okB at h
  simp only [Bool.and_eq_true, decide_eq_true_eq, List.all_eq_true, beq_iff_eq] at h
  obtain ⟨⟨⟨⟨h1, h2⟩, h3⟩, h4⟩, h5⟩ := h
  refine ⟨⟨Nat.le_trans h1 (by decide), Nat.le_trans h2 (by decide)⟩, fun k hk => ?_, h4, fun j x hx k hk => ?_, fun j x hx => ?_, fun j x hx e he => ?_⟩
  · rw [Zhn] at hk ⊢; rw [← h3]; exact hk
  · exact (h5 x (List.mem_of_getElem? hx)).1.1.1.1.1.1 k hk
  · have := h5 x (List.mem_of_getElem? hx)
    exact ⟨this.1.1.1.1.1.2, this.1.1.1.1.2, this.1.1.1.2, this.1.1.2⟩
  · have := h5 x (List.mem_of_getElem? hx)
    rcases he with he | he
    · exact this.1.2 e he
    · exact this.2 e he
noncomputable def Kb (b : Addr) (H H' : Zaa) : Prop := ∀ a x, a ≠ b → H a = some x → H' a = some x
theorem Kb.refl {b : Addr} {H : Zaa} : Kb b H H := fun _ _ _ h => h
theorem Kb.trans {b : Addr} {H H' H'' : Zaa} (x : Kb b H H') (y : Kb b H' H'') : Kb b H H'' := fun a o n h => y a o n (x a o n h)
theorem Kb.ext {b : Addr} {H H' : Zaa} (x : Ext H H') : Kb b H H' := fun a o _ h => x a o h
theorem Kb.up {b : Addr} {H : Zaa} {y : AObj} : Kb b H (Mine.up H b y) := fun a o n h => by rw [Zab n]; exact h
section
variable {g : Gx} {V : VV} {Q : AV → Zaa → Prop} {E : String → Zaa → Prop} {H : Zaa} {b : Addr} {B : Bk}
theorem Zbf {i : Nat} {m : String} {xs : List X} (hP : g.c.P.meths = BK.meths) (hm : BK.meths.contains ("Book", m) = true) (hn : bookAttrs.contains m = false) (hb : H b = some (.book B)) (hV : V[i]? = some (some (.ref b)))
    (q : wpXs g xs V (fun vs H => CallOK g.c g.n g.md ("Book." ++ m) (.ref b :: vs) Q E H) E H) : wpX g (.meth (.var i) m xs) V Q E H := by
  simp only [Za4, Zbc, Zae, hV, hb]
  exact ⟨by rw [hP]; exact hm, hn, q⟩
abbrev Pure (g : Gx) (V : VV) (e : X) (v : AV) : Prop := ∀ (Q : AV → Zaa → Prop) (E : String → Zaa → Prop) (H : Zaa), Q v H → wpX g e V Q E H
abbrev Lays (g : Gx) (V : VV) (e : X) (l : List (AV × AV)) (H : Zaa) : Prop := ∀ (Q : AV → Zaa → Prop) (E : String → Zaa → Prop) (H1 : Zaa), Ext H H1 → (∀ H' z ts, Ext H1 H' → H' z = some (.list (ts.map .ref)) → pairsH H' ts l → Q (.ref z) H') → wpX g e V Q E H1
abbrev Zqk (g : Gx) (V : VV) (e : X) (l : List AV) (H : Zaa) : Prop := ∀ (Q : AV → Zaa → Prop) (E : String → Zaa → Prop) (H1 : Zaa), Ext H H1 → (∀ H' z, Ext H1 H' → H' z = some (.list l) → Q (.ref z) H') → wpX g e V Q E H1
theorem pairsH.ext {H' : Zaa} (hE : Ext H H') : ∀ {ts : List Addr} {l : List (AV × AV)}, pairsH H ts l → pairsH H' ts l
  | [], [], _ => trivial
  | _ :: _, _ :: _, h => ⟨⟨rfl, hE _ _ h.1.2.1, h.1.2.2⟩, pairsH.ext hE h.2⟩
  | [], _ :: _, h => h.elim
  | _ :: _, [], h => h.elim
theorem Zrr : Zqk g V (.list []) [] H := fun Q E H1 _ q => by
  rw [Zam, Zaf]
  intro z hz
  exact q _ z (Ext.refl.new hz) Zad
theorem Zxr {e : X} {v : AV} (h : Pure g V e v) : Zqk g V (.list [e]) [v] H := fun Q E H1 _ q => by
  rw [Zam, Zac]
  refine h _ _ _ ?_
  rw [Zaf]
  intro z hz
  exact q _ z (Ext.refl.new hz) Zad
theorem lay1 {e1 e2 : X} {v w : AV} (h1 : Pure g V e1 v) (h2 : Pure g V e2 w) (k1 : Kv v) (k2 : Kv w) : Lays g V (.list [.tuple [e1, e2]]) [(v, w)] H := fun Q E H1 _ q => by
  rw [Zam, Zac, Zbg, Zac]
  refine h1 _ _ _ ?_
  rw [Zac]
  refine h2 _ _ _ ?_
  rw [Zaf]
  intro t ht
  rw [Zaf]
  intro z hz
  have hE := (Ext.refl.new (o := .tuple [v, w]) ht).new (o := .list [.ref t]) hz
  exact q _ z [t] hE Zad ⟨⟨rfl, Zgj Zad hz, k1, k2⟩, trivial⟩
theorem Kv.str {s : Str} (h : s.length < 2 ^ 62) : Kv (.str s) := ⟨(fun a h => by cases h), fun t e => by cases e; exact h⟩
theorem Kv.int {i : Int} : Kv (.int i) := ⟨(fun a h => by cases h), fun t e => by cases e⟩
end
noncomputable def dV : AV → PyData
  | .none => .none
  | .bool b => .bool b
  | .int i => .int i
  | .str s => .str s
  | .ref _ => .none
theorem Zn8 {H : Zaa} {v : AV} (h : Kv v) : RD H v (dV v) := by
  cases v with
  | none => exact .none
  | bool b => exact .bool b
  | int i => exact .int i
  | str s => exact .str s
  | ref a => exact absurd rfl (h.nr a)
theorem Zvm {v : AV} : okD (dV v) := by cases v <;> exact ⟨rfl, Nat.zero_le _⟩
theorem Zlf {v : AV} : Zhu (dV v) = true := by cases v <;> rfl
theorem Zmn {v : AV} : (dV v).depth = 0 := by cases v <;> rfl
theorem Zpx {v : AV} : PyData.eqv (dV v) (dV v) = true := by
  cases v with
  | none => rfl
  | bool b => exact beq_self_eq_true b
  | int i => exact beq_self_eq_true i
  | str s => exact beq_self_eq_true s
  | ref a => rfl
theorem Zhz {H : Zaa} : ∀ {l : List AV}, (∀ v ∈ l, Kv v) → RDs H l (l.map dV)
  | [], _ => .nil
  | v :: r, h => .cons (Zn8 (h v (.head _))) (Zhz fun w hw => h w (.tail _ hw))
theorem Zfm : ∀ {l : List AV}, Zdi (l.map dV) = true
  | [] => rfl
  | v :: r => by show (Zhu (dV v) && Zdi (r.map dV)) = true; rw [Zlf, Zfm]; rfl
theorem Zfn : ∀ {l : List AV}, PyData.depthAll (l.map dV) = 0
  | [] => rfl
  | v :: r => by show max (dV v).depth (PyData.depthAll (r.map dV)) = 0; rw [Zmn, Zfn]; rfl
theorem Zli : ∀ {l : List AV}, PyData.eqvAll (l.map dV) (l.map dV) = true
  | [] => rfl
  | v :: r => by show (PyData.eqv (dV v) (dV v) && PyData.eqvAll (r.map dV) (r.map dV)) = true; rw [Zpx, Zli]; rfl
noncomputable def dP2 (e : AV × AV) : PyData := .tuple [dV e.1, dV e.2]
theorem Zen {H : Zaa} : ∀ {ts : List Addr} {l : List (AV × AV)}, pairsH H ts l → RDs H (ts.map AV.ref) (l.map dP2)
  | [], [], _ => .nil
  | _ :: _, _ :: _, h => .cons (.tuple h.1.2.1 (.cons (Zn8 h.1.2.2.1) (.cons (Zn8 h.1.2.2.2) .nil))) (Zen h.2)
  | [], _ :: _, h => h.elim
  | _ :: _, [], h => h.elim
theorem Zgv : ∀ {l : List (AV × AV)}, Zdi (l.map dP2) = true
  | [] => rfl
  | e :: r => by show ((Zhu (dV e.1) && (Zhu (dV e.2) && true)) && Zdi (r.map dP2)) = true; rw [Zlf, Zlf, Zgv]; rfl
theorem Zfo : ∀ {l : List (AV × AV)}, PyData.depthAll (l.map dP2) ≤ 1
  | [] => Nat.zero_le _
  | e :: r => by
    show max ((dP2 e).depth) (PyData.depthAll (r.map dP2)) ≤ 1
    have : (dP2 e).depth ≤ 1 := by simp [dP2, PyData.depth, PyData.depthAll, Zmn]
    exact Nat.max_le.mpr ⟨this, Zfo⟩
theorem Zlj : ∀ {l : List (AV × AV)}, PyData.eqvAll (l.map dP2) (l.map dP2) = true
  | [] => rfl
  | e :: r => by
    show ((PyData.eqv (dV e.1) (dV e.1) && (PyData.eqv (dV e.2) (dV e.2) && true)) && PyData.eqvAll (r.map dP2) (r.map dP2)) = true
    rw [Zpx, Zpx, Zlj]; rfl
theorem Zbj {H : Zaa} : ∀ {ts : List Addr} {l : List (AV × AV)}, pairsH H ts l → ts.length = l.length
  | [], [], _ => rfl
  | _ :: _, _ :: _, h => congrArg Nat.succ (Zbj h.2)
  | [], _ :: _, h => h.elim
  | _ :: _, [], h => h.elim
noncomputable def inL (l : List Str) (v : AV) : Bool := match v with
  | .str s => decide (s ∈ l)
  | _ => false
theorem Zsa {l : List Str} {v : AV} (hv : Kv v) : ((l.map PyData.str).any fun y => PyData.eqv y (dV v)) = inL l v := by
  cases v with
  | str s => exact Zqf
  | ref a => exact absurd rfl (hv.nr a)
  | _ => exact List.any_eq_false.mpr fun y hy => by obtain ⟨s, _, rfl⟩ := List.mem_map.mp hy; exact Bool.false_ne_true
theorem Zln {Q : AV → Zaa → Prop} {H : Zaa} {no : Bool} {v : AV} {a : Addr} {l : List Str} (hv : Kv v) (h : H a = some (.list (txs l))) (q : Q (.bool (inL l v != no)) H) : win no v (.ref a) Q H := by
  rw [Zd4, h]
  refine ⟨dV v, l.map PyData.str, Zn8 hv, Zg4, Zvm, Zfl, ?_⟩
  rw [Zsa hv, ← Ziv]; exact q
theorem Zuq {Q : AV → Zaa → Prop} {H : Zaa} {no : Bool} {v : AV} {a : Addr} {l : List AV} (hv : Kv v) (hl : ∀ w ∈ l, Kv w) (h : H a = some (.list l)) (q : Q (.bool ((l.any fun w => PyData.eqv (dV w) (dV v)) != no)) H) : win no v (.ref a) Q H := by
  rw [Zd4, h]
  refine ⟨dV v, l.map dV, Zn8 hv, Zhz hl, Zvm, Zfm, ?_⟩
  rw [List.any_map, ← Ziv]; exact q
theorem Kv.none : Kv .none := ⟨(fun a h => by cases h), fun t e => by cases e⟩
theorem Kv.bool {b : Bool} : Kv (.bool b) := ⟨(fun a h => by cases h), fun t e => by cases e⟩
end Mine
end
section
open PySem PySem.W PyProof.Rows PySem.Spec PySem.SeqAt PySem.Calls
namespace Mine.L08
noncomputable def f__law_told : Fn := ⟨2, ["_law_book", "_law_row", "_law_told_here"], [
  .try [.assign (.var 2) (.meth (.var 0) "tell" [(.sub (.var 1) (.lit (.int 0))), (.sub (.var 1) (.lit (.int 1))), (.sub (.var 1) (.lit (.int 2))), (.sub (.var 1) (.lit (.int 3))), (.sub (.var 1) (.lit (.int 4)))])] [.mk "NoName" none [.ret (.lit (.str (Str.ofString "NoName")))], .mk "Taken" none [.ret (.lit (.str (Str.ofString "Taken")))], .mk "NoRow" none [.ret (.lit (.str (Str.ofString "NoRow")))], .mk "NoPurse" none [.ret (.lit (.str (Str.ofString "NoPurse")))], .mk "Twice" none [.ret (.lit (.str (Str.ofString "Twice")))], .mk "NoAmount" none [.ret (.lit (.str (Str.ofString "NoAmount")))], .mk "Uneven" none [.ret (.lit (.str (Str.ofString "Uneven")))], .mk "Fallen" none [.ret (.lit (.str (Str.ofString "Fallen")))], .mk "NoDay" none [.ret (.lit (.str (Str.ofString "NoDay")))]],
  .ret (.sub (.list [(.lit (.str (Str.ofString "something"))), (.lit (.str (Str.ofString "")))]) (.prim .int [(.cmp .Is (.var 2) (.lit .none))]))]⟩
noncomputable def f__law_pairs_by : Fn := ⟨2, ["_law_cell", "_law_purses", "_law_size", "_law_rest", "_law_pairs", "_law_j", "_law_purse", "_law_amount"], [
  .assign (.var 2) (.sub (.list [(.lit (.int 1)), (.lit (.int 2)), (.lit (.int 3)), (.lit (.int 1)), (.lit (.int 2)), (.lit (.int 3)), (.lit (.int 8)), (.lit (.int 9)), (.lit (.int 0))]) (.bin .Mod (.var 0) (.lit (.int 9)))),
  .assign (.var 3) (.bin .FloorDiv (.var 0) (.lit (.int 9))),
  .assign (.var 4) (.list []),
  .for (.var 5) (.prim .range [(.var 2)]) [.assign (.var 6) (.sub (.var 1) (.bin .Mod (.bin .Add (.bin .FloorDiv (.var 3) (.lit (.int 32))) (.var 5)) (.lit (.int 9)))),
    .assign (.var 7) (.bin .Add (.lit (.int 1)) (.bin .Mod (.var 3) (.lit (.int 40)))),
    .ite (.cmp .Eq (.bin .Mod (.var 3) (.lit (.int 32))) (.lit (.int 1))) [.assign (.var 6) (.sub (.list [(.lit (.str (Str.ofString "nobody"))), (.lit (.int 3)), (.sub (.var 1) (.bin .Mod (.bin .FloorDiv (.var 3) (.lit (.int 32))) (.lit (.int 9))))]) (.bin .Mod (.bin .FloorDiv (.var 3) (.lit (.int 288))) (.lit (.int 3))))] [],
    .ite (.cmp .Eq (.bin .Mod (.var 3) (.lit (.int 32))) (.lit (.int 2))) [.assign (.var 7) (.sub (.list [(.lit (.int 0)), (.lit (.bool true)), (.bin .Add (.bin .Pow (.lit (.int 10)) (.lit (.int 30))) (.lit (.int 1))), (.lit (.str (Str.ofString "4"))), (.bin .Pow (.lit (.int 10)) (.lit (.int 30))), (.bin .Pow (.lit (.int 10)) (.lit (.int 30)))]) (.bin .Mod (.bin .FloorDiv (.var 3) (.lit (.int 288))) (.lit (.int 6))))] [.ite (.cmp .Eq (.bin .Mod (.bin .FloorDiv (.bin .FloorDiv (.var 0) (.lit (.int 9))) (.lit (.int 7))) (.lit (.int 4))) (.lit (.int 1))) [.assign (.var 7) (.bin .Sub (.bin .Add (.var 7) (.bin .Pow (.lit (.int 10)) (.lit (.int 30)))) (.lit (.int 100)))] []],
    .expr (.bm (.var 4) .append [(.tuple [(.var 6), (.var 7)])]),
    .assign (.var 3) (.bin .FloorDiv (.var 3) (.lit (.int 5)))],
  .ret (.var 4)]⟩
noncomputable def f__law_pairs_due : Fn := ⟨2, ["_law_pairs", "_law_purses", "_law_seen", "_law_purse", "_law_amount"], [
  .ite (.ao false [(.cmp .Eq (.var 0) (.list [])), (.cmp .Gt (.prim .len [(.var 0)]) (.lit (.int 8)))]) [.ret (.lit (.str (Str.ofString "NoRow")))] [],
  .assign (.var 2) (.list []),
  .for (.tup [3, 4]) (.var 0) [.ite (.cmp .NotIn (.var 3) (.var 1)) [.ret (.lit (.str (Str.ofString "NoPurse")))] [],
    .ite (.cmp .In (.var 3) (.var 2)) [.ret (.lit (.str (Str.ofString "Twice")))] [],
    .ite (.ao false [(.not (.call "_law_whole" [(.var 4)])), (.cmp .Lt (.var 4) (.lit (.int 1))), (.cmp .Gt (.var 4) (.bin .Pow (.lit (.int 10)) (.lit (.int 30))))]) [.ret (.lit (.str (Str.ofString "NoAmount")))] [],
    .expr (.bm (.var 2) .append [(.var 3)])],
  .ret (.lit (.str (Str.ofString "")))]⟩
noncomputable def f__law_total : Fn := ⟨1, ["_law_pairs"], [
  .ret (.prim .sum [(.comp (.var 2) 2 true (.var 0) (some (.call "_law_whole" [(.var 2)])))])]⟩
noncomputable def f__law_needs_due : Fn := ⟨2, ["_law_own", "_law_needs", "_law_seen", "_law_need"], [
  .ite (.cmp .Gt (.prim .len [(.var 1)]) (.lit (.int 8))) [.ret (.lit (.str (Str.ofString "NoRow")))] [],
  .assign (.var 2) (.list [(.var 0)]),
  .for (.var 3) (.var 1) [.ite (.cmp .In (.var 3) (.list [(.lit (.str (Str.ofString "Yet"))), (.lit (.int 9)), (.lit (.str (Str.ofString ""))), (.lit (.str (Str.ofString "abcdefghijklm"))), (.lit (.str (Str.ofString "a b"))), (.lit .none)])) [.ret (.lit (.str (Str.ofString "NoName")))] [],
    .ite (.cmp .In (.var 3) (.var 2)) [.ret (.lit (.str (Str.ofString "Twice")))] [],
    .ite (.cmp .Eq (.var 3) (.lit (.str (Str.ofString "bob")))) [.ret (.lit (.str (Str.ofString "Fallen")))] [],
    .expr (.bm (.var 2) .append [(.var 3)])],
  .ret (.lit (.str (Str.ofString "")))]⟩
noncomputable def f__law_due : Fn := ⟨2, ["_law_row", "_law_purses", "_law_found"], [
  .ite (.cmp .NotIn (.sub (.var 0) (.lit (.int 0))) (.list [(.lit (.str (Str.ofString "ann"))), (.lit (.str (Str.ofString "bob"))), (.lit (.str (Str.ofString "dan"))), (.lit (.str (Str.ofString "cleo")))])) [.ret (.lit (.str (Str.ofString "NoName")))] [],
  .ite (.cmp .NotEq (.sub (.var 0) (.lit (.int 0))) (.lit (.str (Str.ofString "cleo")))) [.ret (.lit (.str (Str.ofString "Taken")))] [],
  .assign (.var 2) (.call "_law_pairs_due" [(.sub (.var 0) (.lit (.int 1))), (.var 1)]),
  .ite (.cmp .Eq (.var 2) (.lit (.str (Str.ofString "")))) [.assign (.var 2) (.call "_law_pairs_due" [(.sub (.var 0) (.lit (.int 2))), (.var 1)])] [],
  .ite (.ao true [(.cmp .Eq (.var 2) (.lit (.str (Str.ofString "")))), (.cmp .NotEq (.call "_law_total" [(.sub (.var 0) (.lit (.int 1)))]) (.call "_law_total" [(.sub (.var 0) (.lit (.int 2)))]))]) [.assign (.var 2) (.lit (.str (Str.ofString "Uneven")))] [],
  .ite (.cmp .Eq (.var 2) (.lit (.str (Str.ofString "")))) [.assign (.var 2) (.call "_law_needs_due" [(.sub (.var 0) (.lit (.int 0))), (.sub (.var 0) (.lit (.int 3)))])] [],
  .ite (.ao true [(.cmp .Eq (.var 2) (.lit (.str (Str.ofString "")))), (.ao false [(.not (.call "_law_whole" [(.sub (.var 0) (.lit (.int 4)))])), (.cmp .Lt (.sub (.var 0) (.lit (.int 4))) (.lit (.int 2)))])]) [.assign (.var 2) (.lit (.str (Str.ofString "NoDay")))] [],
  .ret (.var 2)]⟩
noncomputable def f__law_gains_by : Fn := ⟨3, ["_law_cell", "_law_parts", "_law_purses", "_law_total_here", "_law_size", "_law_gains", "_law_j"], [
  .assign (.var 3) (.call "_law_total" [(.var 1)]),
  .ite (.cmp .Gt (.var 3) (.bin .Pow (.lit (.int 10)) (.lit (.int 30)))) [.ret (.comp (.tuple [(.sub (.var 2) (.bin .Mod (.bin .Add (.var 0) (.var 7)) (.lit (.int 9)))), (.sub (.sub (.var 1) (.var 7)) (.lit (.int 1)))]) 1 false (.prim .range [(.prim .len [(.var 1)])]) none)] [],
  .assign (.var 4) (.prim .max [(.lit (.int 1)), (.prim .min [(.bin .Add (.lit (.int 1)) (.bin .Mod (.var 0) (.lit (.int 8)))), (.var 3)])]),
  .assign (.var 5) (.list [(.tuple [(.sub (.var 2) (.bin .Mod (.bin .FloorDiv (.var 0) (.lit (.int 8))) (.lit (.int 9)))), (.bin .Add (.bin .Sub (.var 3) (.var 4)) (.lit (.int 1)))])]),
  .for (.var 6) (.prim .range [(.lit (.int 1)), (.var 4)]) [.expr (.bm (.var 5) .append [(.tuple [(.sub (.var 2) (.bin .Mod (.bin .Add (.bin .FloorDiv (.var 0) (.lit (.int 8))) (.var 6)) (.lit (.int 9)))), (.lit (.int 1))])])],
  .ret (.var 5)]⟩
noncomputable def f__law_paid : Fn := ⟨4, ["_law_book", "_law_parts", "_law_gains", "_law_purses", "_law_due_here", "_law_purse", "_law_amount"], [
  .assign (.var 4) (.dict [] []),
  .for (.var 5) (.var 3) [.assign (.sub (.var 4) (.var 5)) (.bin .Mult (.lit (.int 2)) (.bin .Pow (.lit (.int 10)) (.lit (.int 30))))],
  .assign (.sub (.var 4) (.lit (.str (Str.ofString "b")))) (.bin .Sub (.sub (.var 4) (.lit (.str (Str.ofString "b")))) (.lit (.int 1))),
  .assign (.sub (.var 4) (.lit (.str (Str.ofString "e")))) (.bin .Add (.sub (.var 4) (.lit (.str (Str.ofString "e")))) (.lit (.int 1))),
  .for (.tup [5, 6]) (.var 1) [.assign (.sub (.var 4) (.var 5)) (.bin .Sub (.sub (.var 4) (.var 5)) (.var 6))],
  .for (.tup [5, 6]) (.var 2) [.assign (.sub (.var 4) (.var 5)) (.bin .Add (.sub (.var 4) (.var 5)) (.var 6))],
  .ite (.cmp .NotEq (.meth (.var 0) "settle" []) (.list [(.lit (.str (Str.ofString "cleo")))])) [.ret (.lit (.bool false))] [],
  .ret (.cmp .Eq (.comp (.meth (.var 0) "free_of" [(.var 7)]) 1 false (.var 3) none) (.comp (.sub (.var 4) (.var 7)) 1 false (.var 3) none))]⟩
noncomputable def f__law_refused_again : Fn := ⟨2, ["_law_book", "_law_purses", "_law_purse", "_law_due_here", "_law_refused", "e"], [
  .for (.var 2) (.var 1) [.assign (.var 3) (.bin .Sub (.bin .Add (.bin .Mult (.lit (.int 2)) (.bin .Pow (.lit (.int 10)) (.lit (.int 30)))) (.prim .int [(.cmp .Eq (.var 2) (.lit (.str (Str.ofString "e"))))])) (.prim .int [(.cmp .Eq (.var 2) (.lit (.str (Str.ofString "b"))))])),
    .ite (.ao false [(.cmp .NotEq (.meth (.var 0) "free_of" [(.var 2)]) (.var 3)), (.cmp .NotEq (.meth (.var 0) "aside_of" [(.var 2)]) (.lit (.int 0)))]) [.ret (.lit (.bool false))] []],
  .assign (.var 4) (.lit (.bool false)),
  .try [.expr (.meth (.var 0) "tell" [(.lit (.str (Str.ofString "cleo"))), (.list [(.tuple [(.lit (.str (Str.ofString "b"))), (.lit (.int 2))])]), (.list [(.tuple [(.lit (.str (Str.ofString "e"))), (.lit (.int 3))])]), (.list []), (.lit (.int 9))])] [.mk "BookError" (some 5) [.assign (.var 4) (.ao true [(.isinst (.var 5) "ValueError"), (.isinst (.var 5) "Uneven")])]],
  .ite (.ao false [(.not (.var 4)), (.cmp .NotEq (.meth (.var 0) "told" []) (.list [(.lit (.str (Str.ofString "ann"))), (.lit (.str (Str.ofString "bob"))), (.lit (.str (Str.ofString "dan")))])), (.cmp .NotEq (.meth (.var 0) "state_of" [(.lit (.str (Str.ofString "dan")))]) (.lit (.str (Str.ofString "done"))))]) [.ret (.lit (.bool false))] [],
  .ite (.cmp .IsNot (.meth (.var 0) "tell" [(.lit (.str (Str.ofString "cleo"))), (.list [(.tuple [(.lit (.str (Str.ofString "b"))), (.lit (.int 2))])]), (.list [(.tuple [(.lit (.str (Str.ofString "e"))), (.lit (.int 2))])]), (.list []), (.lit (.int 9))]) (.lit .none)) [.ret (.lit (.bool false))] [],
  .ret (.ao true [(.cmp .Eq (.meth (.var 0) "told" []) (.list [(.lit (.str (Str.ofString "ann"))), (.lit (.str (Str.ofString "bob"))), (.lit (.str (Str.ofString "dan"))), (.lit (.str (Str.ofString "cleo")))])), (.cmp .Eq (.meth (.var 0) "state_of" [(.lit (.str (Str.ofString "cleo")))]) (.lit (.str (Str.ofString "open"))))])]⟩
noncomputable def f__law_row_by : Fn := ⟨2, ["_law_script", "_law_purses", "_law_cell", "_law_name", "_law_odd", "_law_parts", "_law_gains", "_law_rest", "_law_needs", "_law_some", "_law_j", "_law_need", "_law_last"], [
  .assign (.var 2) (.call "_law_mixed" [(.call "_law_cell_at" [(.var 0), (.lit (.int 0))]), (.lit (.int 1))]),
  .assign (.var 3) (.lit (.str (Str.ofString "cleo"))),
  .ite (.cmp .Lt (.bin .Mod (.var 2) (.lit (.int 13))) (.lit (.int 5))) [.assign (.var 4) (.sub (.list [(.lit (.str (Str.ofString "Cleo"))), (.lit (.int 4)), (.lit (.str (Str.ofString ""))), (.lit (.str (Str.ofString "abcdefghijklm"))), (.lit (.str (Str.ofString "till-"))), (.lit .none), (.list [(.lit (.str (Str.ofString "a")))])]) (.bin .Mod (.bin .FloorDiv (.var 2) (.lit (.int 7))) (.lit (.int 7)))),
    .assign (.var 3) (.sub (.list [(.lit (.str (Str.ofString "ann"))), (.lit (.str (Str.ofString "bob"))), (.lit (.str (Str.ofString "dan"))), (.var 4), (.var 4)]) (.bin .Mod (.var 2) (.lit (.int 13))))] [],
  .assign (.var 5) (.call "_law_pairs_by" [(.call "_law_mixed" [(.call "_law_cell_at" [(.var 0), (.lit (.int 1))]), (.lit (.int 2))]), (.var 1)]),
  .assign (.var 6) (.call "_law_pairs_by" [(.call "_law_mixed" [(.call "_law_cell_at" [(.var 0), (.lit (.int 2))]), (.lit (.int 3))]), (.var 1)]),
  .ite (.cmp .Lt (.bin .Mod (.bin .FloorDiv (.var 2) (.lit (.int 13))) (.lit (.int 5))) (.lit (.int 4))) [.assign (.var 6) (.call "_law_gains_by" [(.bin .FloorDiv (.var 2) (.lit (.int 65))), (.var 5), (.var 1)])] [],
  .assign (.var 7) (.call "_law_mixed" [(.call "_law_cell_at" [(.var 0), (.lit (.int 3))]), (.lit (.int 4))]),
  .assign (.var 8) (.list []),
  .assign (.var 9) (.list [(.lit (.str (Str.ofString "dan"))), (.lit (.str (Str.ofString "ann"))), (.lit (.str (Str.ofString "never"))), (.lit (.str (Str.ofString "nowhere"))), (.lit (.str (Str.ofString "yet"))), (.lit (.str (Str.ofString "soon"))), (.lit (.str (Str.ofString "later"))), (.lit (.str (Str.ofString "once"))), (.lit (.str (Str.ofString "next"))), (.lit (.str (Str.ofString "abcdefghijkl")))]),
  .for (.var 10) (.prim .range [(.bin .Mod (.bin .Mod (.var 7) (.lit (.int 11))) (.lit (.int 10)))]) [.assign (.var 11) (.sub (.var 9) (.bin .Mod (.bin .Add (.bin .FloorDiv (.var 7) (.lit (.int 770))) (.var 10)) (.lit (.int 10)))),
    .ite (.cmp .Eq (.bin .Mod (.bin .FloorDiv (.var 7) (.lit (.int 11))) (.lit (.int 10))) (.bin .Sub (.lit (.int 7)) (.var 10))) [.assign (.var 11) (.sub (.list [(.lit (.str (Str.ofString "bob"))), (.lit (.str (Str.ofString "cleo"))), (.lit (.str (Str.ofString "Yet"))), (.lit (.int 9)), (.lit (.str (Str.ofString "ann"))), (.lit (.str (Str.ofString "bob"))), (.lit (.str (Str.ofString "cleo"))), (.lit (.str (Str.ofString ""))), (.lit (.str (Str.ofString "abcdefghijklm"))), (.lit (.str (Str.ofString "a b"))), (.lit .none)]) (.bin .Mod (.bin .FloorDiv (.var 7) (.lit (.int 110))) (.lit (.int 11))))] [],
    .expr (.bm (.var 8) .append [(.var 11)])],
  .assign (.var 12) (.sub (.list [(.lit (.int 2)), (.lit (.int 3)), (.lit (.int 4)), (.lit (.int 1)), (.lit (.int 2)), (.lit (.int 3)), (.lit (.int 1)), (.lit (.int 0)), (.neg (.lit (.int 1))), (.lit (.bool true)), (.lit .none), (.lit (.str (Str.ofString "3")))]) (.bin .Mod (.bin .FloorDiv (.call "_law_cell_at" [(.var 0), (.lit (.int 4))]) (.lit (.int 3))) (.lit (.int 12)))),
  .ite (.cmp .Eq (.bin .Mod (.call "_law_cell_at" [(.var 0), (.lit (.int 4))]) (.lit (.int 3))) (.lit (.int 1))) [.assign (.var 12) (.bin .Add (.lit (.int 2)) (.bin .Mod (.bin .FloorDiv (.call "_law_cell_at" [(.var 0), (.lit (.int 4))]) (.lit (.int 3))) (.bin .Pow (.lit (.int 10)) (.lit (.int 40)))))] [],
  .ret (.list [(.var 3), (.var 5), (.var 6), (.var 8), (.var 12)])]⟩
noncomputable def f_law : Fn := ⟨1, ["_law_script", "_law_book", "_law_purses", "_law_purse", "_law_name", "_law_row", "_law_due_here", "_law_kept", "_law_amount"], [
  .assign (.var 1) (.new "Book" []),
  .assign (.var 2) (.list [(.lit (.str (Str.ofString "till"))), (.lit (.str (Str.ofString "b"))), (.lit (.str (Str.ofString "mill"))), (.lit (.str (Str.ofString "quay"))), (.lit (.str (Str.ofString "vjxzwkpgfhyd"))), (.lit (.str (Str.ofString "e"))), (.lit (.str (Str.ofString "ff"))), (.lit (.str (Str.ofString "never"))), (.lit (.str (Str.ofString "dan")))]),
  .for (.var 3) (.var 2) [.ite (.cmp .Eq (.var 3) (.lit (.str (Str.ofString "dan")))) [.for (.var 4) (.list [(.lit (.str (Str.ofString "ann"))), (.lit (.str (Str.ofString "bob"))), (.lit (.str (Str.ofString "dan")))]) [.expr (.meth (.var 1) "tell" [(.var 4), (.list [(.tuple [(.lit (.str (Str.ofString "b"))), (.lit (.int 1))])]), (.list [(.tuple [(.lit (.str (Str.ofString "e"))), (.lit (.int 1))])]), (.list []), (.lit (.int 9))])]] [],
    .expr (.meth (.var 1) "open_purse" [(.var 3)]),
    .expr (.meth (.var 1) "put" [(.var 3), (.bin .Pow (.lit (.int 10)) (.lit (.int 30)))]),
    .expr (.meth (.var 1) "put" [(.var 3), (.bin .Pow (.lit (.int 10)) (.lit (.int 30)))])],
  .expr (.meth (.var 1) "call_off" [(.lit (.str (Str.ofString "bob")))]),
  .expr (.meth (.var 1) "set_aside" [(.lit (.str (Str.ofString "b"))), (.lit (.str (Str.ofString "dan")))]),
  .expr (.meth (.var 1) "settle" []),
  .expr (.meth (.var 1) "pass_days" [(.lit (.int 2))]),
  .assign (.var 5) (.call "_law_row_by" [(.var 0), (.var 2)]),
  .assign (.var 6) (.call "_law_due" [(.var 5), (.var 2)]),
  .assign (.var 7) (.list [(.prim .list [(.sub (.var 5) (.lit (.int 1)))]), (.prim .list [(.sub (.var 5) (.lit (.int 2)))]), (.prim .list [(.sub (.var 5) (.lit (.int 3)))])]),
  .ite (.ao false [(.cmp .NotEq (.call "_law_told" [(.var 1), (.var 5)]) (.var 6)), (.cmp .NotEq (.meth (.var 1) "told" []) (.slice (.list [(.lit (.str (Str.ofString "ann"))), (.lit (.str (Str.ofString "bob"))), (.lit (.str (Str.ofString "dan"))), (.lit (.str (Str.ofString "cleo")))]) none (some (.bin .Add (.lit (.int 3)) (.prim .int [(.cmp .Eq (.var 6) (.lit (.str (Str.ofString ""))))]))) none))]) [.ret (.lit (.bool false))] [],
  .ite (.cmp .NotEq (.slice (.var 5) (some (.lit (.int 1))) (some (.lit (.int 4))) none) (.var 7)) [.ret (.lit (.bool false))] [],
  .expr (.bm (.sub (.var 5) (.lit (.int 1))) .clear []),
  .expr (.bm (.sub (.var 5) (.lit (.int 2))) .append [(.tuple [(.lit (.str (Str.ofString "b"))), (.lit (.int 1))])]),
  .expr (.bm (.sub (.var 5) (.lit (.int 3))) .append [(.lit (.str (Str.ofString "bob")))]),
  .ite (.cmp .NotEq (.var 6) (.lit (.str (Str.ofString "")))) [.ret (.call "_law_refused_again" [(.var 1), (.var 2)])] [],
  .ite (.ao false [(.cmp .NotEq (.meth (.var 1) "state_of" [(.lit (.str (Str.ofString "cleo")))]) (.lit (.str (Str.ofString "open")))), (.cmp .IsNot (.meth (.var 1) "full" [(.lit (.str (Str.ofString "cleo")))]) (.lit (.bool false))), (.cmp .NotEq (.meth (.var 1) "inside_of" [(.lit (.str (Str.ofString "cleo")))]) (.list []))]) [.ret (.lit (.bool false))] [],
  .for (.tup [3, 8]) (.sub (.var 7) (.lit (.int 0))) [.expr (.meth (.var 1) "set_aside" [(.var 3), (.lit (.str (Str.ofString "cleo")))]),
    .ite (.cmp .NotEq (.meth (.var 1) "aside_of" [(.var 3)]) (.var 8)) [.ret (.lit (.bool false))] []],
  .ite (.ao false [(.cmp .IsNot (.meth (.var 1) "full" [(.lit (.str (Str.ofString "cleo")))]) (.lit (.bool true))), (.cmp .NotEq (.meth (.var 1) "inside_of" [(.lit (.str (Str.ofString "cleo")))]) (.comp (.var 9) 2 true (.sub (.var 7) (.lit (.int 0))) none))]) [.ret (.lit (.bool false))] [],
  .ret (.ao false [(.cmp .NotIn (.sub (.var 7) (.lit (.int 2))) (.list [(.list []), (.list [(.lit (.str (Str.ofString "dan")))])])), (.call "_law_paid" [(.var 1), (.sub (.var 7) (.lit (.int 0))), (.sub (.var 7) (.lit (.int 1))), (.var 2)])])]⟩
noncomputable def P : Pg where
  fns := [("are_met", BK.f_are_met), ("table_of", BK.f_table_of), ("greatest", BK.f_greatest), ("is_whole", BK.f_is_whole), ("is_name", BK.f_is_name), ("name_of", BK.f_name_of), ("amount_of", BK.f_amount_of), ("_law_whole", BK.f__law_whole), ("_law_cell_at", BK.f__law_cell_at), ("_law_mixed", BK.f__law_mixed), ("_law_told", f__law_told), ("_law_pairs_by", f__law_pairs_by), ("_law_pairs_due", f__law_pairs_due), ("_law_total", f__law_total), ("_law_needs_due", f__law_needs_due), ("_law_due", f__law_due), ("_law_gains_by", f__law_gains_by), ("_law_paid", f__law_paid), ("_law_refused_again", f__law_refused_again), ("_law_row_by", f__law_row_by), ("law", f_law), ("Pact.__init__", BK.f_Pact___init__), ("Pact.part_of", BK.f_Pact_part_of), ("Pact.is_full", BK.f_Pact_is_full), ("Book.__init__", BK.f_Book___init__), ("Book.need_purse", BK.f_Book_need_purse), ("Book.need_pact", BK.f_Book_need_pact), ("Book.need_open", BK.f_Book_need_open), ("Book.open_purse", BK.f_Book_open_purse), ("Book.put", BK.f_Book_put), ("Book.pairs_of", BK.f_Book_pairs_of), ("Book.needs_of", BK.f_Book_needs_of), ("Book.tell", BK.f_Book_tell), ("Book.set_aside", BK.f_Book_set_aside), ("Book.given_back", BK.f_Book_given_back), ("Book.fell", BK.f_Book_fell), ("Book.first_dragged", BK.f_Book_first_dragged), ("Book.dragged", BK.f_Book_dragged), ("Book.call_off", BK.f_Book_call_off), ("Book.pass_days", BK.f_Book_pass_days), ("Book.standing", BK.f_Book_standing), ("Book.settle", BK.f_Book_settle), ("Book.purses", BK.f_Book_purses), ("Book.told", BK.f_Book_told), ("Book.free_of", BK.f_Book_free_of), ("Book.aside_of", BK.f_Book_aside_of), ("Book.state_of", BK.f_Book_state_of), ("Book.inside_of", BK.f_Book_inside_of), ("Book.full", BK.f_Book_full)]
  gfns := ["_wall", "are_met", "table_of", "greatest", "is_whole", "is_name", "name_of", "amount_of", "_law_whole", "_law_cell_at", "_law_mixed", "_law_told", "_law_pairs_by", "_law_pairs_due", "_law_total", "_law_needs_due", "_law_due", "_law_gains_by", "_law_paid", "_law_refused_again", "_law_row_by", "law"]
  consts := [("LETTERS", (.str (Str.ofString "abcdefghijklmnopqrstuvwxyz"))), ("MOST_SIGNS", (.int 12)), ("MOST_AMOUNT", (.int 1000000000000000000000000000000)), ("MOST", (.int 8))]
  excs := [("BookError", ["BookError", "ValueError"]), ("NoName", ["NoName", "BookError", "ValueError"]), ("NoAmount", ["NoAmount", "BookError", "ValueError"]), ("Taken", ["Taken", "BookError", "ValueError"]), ("NoPurse", ["NoPurse", "BookError", "ValueError"]), ("TooLittle", ["TooLittle", "BookError", "ValueError"]), ("NoRow", ["NoRow", "BookError", "ValueError"]), ("Twice", ["Twice", "BookError", "ValueError"]), ("Uneven", ["Uneven", "BookError", "ValueError"]), ("Fallen", ["Fallen", "BookError", "ValueError"]), ("NoDay", ["NoDay", "BookError", "ValueError"]), ("NoPact", ["NoPact", "BookError", "ValueError"]), ("NotOpen", ["NotOpen", "BookError", "ValueError"]), ("NoPart", ["NoPart", "BookError", "ValueError"]), ("Already", ["Already", "BookError", "ValueError"])]
  classes := ["Pact", "Book"]
  meths := [("Pact", "__init__"), ("Pact", "part_of"), ("Pact", "is_full"), ("Book", "__init__"), ("Book", "need_purse"), ("Book", "need_pact"), ("Book", "need_open"), ("Book", "open_purse"), ("Book", "put"), ("Book", "take"), ("Book", "pairs_of"), ("Book", "needs_of"), ("Book", "tell"), ("Book", "set_aside"), ("Book", "given_back"), ("Book", "draw_back"), ("Book", "fell"), ("Book", "first_dragged"), ("Book", "dragged"), ("Book", "call_off"), ("Book", "pass_days"), ("Book", "standing"), ("Book", "settle"), ("Book", "why_not"), ("Book", "purses"), ("Book", "told"), ("Book", "free_of"), ("Book", "aside_of"), ("Book", "state_of"), ("Book", "inside_of"), ("Book", "full")]
  attrs := [("Book", "aside"), ("Book", "day"), ("Book", "free"), ("Book", "pacts"), ("Pact", "gains"), ("Pact", "inside"), ("Pact", "last"), ("Pact", "name"), ("Pact", "needs"), ("Pact", "parts"), ("Pact", "state")]
  prims := ["ValueError", "bool", "int", "isinstance", "len", "list", "max", "min", "range", "str", "sum"]
end Mine.L08
end
section
open PySem PySem.W PyProof.Rows PySem.Spec PySem.SeqAt PySem.Calls
namespace Mine
open L08
theorem U8 : HasP L08.P := ⟨⟨rfl, rfl, rfl, rfl, rfl, rfl, rfl, rfl, rfl, rfl, rfl, rfl, rfl, rfl, rfl⟩, rfl, rfl⟩
abbrev S8 (s : String) : Str := Str.ofString s
noncomputable def pu8 : List Str := [S8 "till", S8 "b", S8 "mill", S8 "quay", S8 "vjxzwkpgfhyd", S8 "e", S8 "ff", S8 "never", S8 "dan"]
noncomputable abbrev inP (v : AV) : Bool := inL pu8 v
noncomputable def Zkw : List (AV × AV) → List Str → Str
  | [], _ => S8 ""
  | e :: r, seen => if inP e.1 then (if Zaz e.1 ∈ seen then S8 "Twice" else if Zb1 e.2 then Zkw r (seen ++ [Zaz e.1]) else S8 "NoAmount") else S8 "NoPurse"
theorem Zod {e : AV × AV} {r : List (AV × AV)} {seen : List Str} : Zkw (e :: r) seen = if inP e.1 then (if Zaz e.1 ∈ seen then S8 "Twice" else if Zb1 e.2 then Zkw r (seen ++ [Zaz e.1]) else S8 "NoAmount") else S8 "NoPurse" := rfl
noncomputable def pdue (l : List (AV × AV)) : Str := if 1 ≤ l.length ∧ l.length ≤ 8 then Zkw l [] else S8 "NoRow"
section
variable {c : Cx} (G : Gd c L08.P) {n : Nat} {md : Bool} {V : VV} {Q : AV → Zaa → Prop} {E : String → Zaa → Prop} {H : Zaa}
include G
theorem Zns {v : AV} (hk : Kv v) (q : Q (.bool (Zbv v)) H) : CallOK c (n + 1) md "_law_whole" [v] Q E H := by
  refine G.call (F := BK.f__law_whole) rfl rfl ?_
  show wpSs _ _ _ _ _ [some v] _
  (rw [show BK.f__law_whole.body = [.ret (.ao true [.isinst (.var 0) "int", .not (.isinst (.var 0) "bool")])] from rfl]; dsimp only [Zas, Za8, x_ao, Zat, Zbl, Zae])
  cases v with
  | int i => exact q
  | bool b => exact q
  | none => exact q
  | str s => exact q
  | ref a => exact absurd rfl (hk.nr a)
inductive PdI (H : Zaa) (L : List (AV × AV)) (l pu sn : Addr) (k : Nat) (V' : VV) (H' : Zaa) : Prop
  | mk (p3 p4 : Option AV) (seen : List Str) (hV : V' = [some (.ref l), some (.ref pu), some (.ref sn), p3, p4]) (hE : Ext H H') (hs : H' sn = some (.list (txs seen))) (hl : seen.length ≤ k) (hd : Zkw L [] = Zkw (L.drop k) seen) : PdI H L l pu sn k V' H'
theorem Zoc {l pu : Addr} {ts : List Addr} {L : List (AV × AV)} (hl : H l = some (.list (ts.map .ref))) (hp : pairsH H ts L) (hpu : H pu = some (.list (txs pu8))) (hlen : L.length ≤ 100) (q : ∀ H', Ext H H' → Q (.str (pdue L)) H') : CallOK c (n + 2) true "_law_pairs_due" [.ref l, .ref pu] Q E H := by
  refine G.call (F := L08.f__law_pairs_due) rfl rfl ?_
  show wpSs _ _ _ _ _ [some (.ref l), some (.ref pu), none, none, none] _
  have hll := Zbj hp
  refine w_st fun K nx => ?_
  dsimp only [Zax, x_ao, Zat, Zak, Zae]
  show wpX _ (.list []) _ _ _ _
  dsimp only [Zam, Zaf]
  intro z0 hz0
  have E0 := Ext.refl.new (o := .list []) hz0
  have hl0 := E0 _ _ hl
  dsimp only [Zr7]
  show weq false (.ref l) (.ref z0) _ _
  simp only [weq, hl0, Zad]
  refine ⟨.list (L.map dP2), .list [], .list hl0 (Zen (hp.ext E0)), .list Zad .nil, ⟨Zgv, Nat.le_trans (Nat.succ_le_succ Zfo) (by decide)⟩, ⟨rfl, by decide⟩, ?_⟩
  unfold pdue at q
  have key : (1 ≤ L.length ∧ L.length ≤ 8) → K [some (.ref l), some (.ref pu), none, none, none] (up H z0 (.list [])) := fun h8 => by
    rw [if_pos h8] at q
    refine nx _ _ ?_
    refine w_st fun K nx => ?_
    dsimp only [Zaj, Zam, Zaf]
    intro sn hsn
    refine ⟨show 2 < 5 by decide, nx _ _ ?_⟩
    have E1 := E0.new (o := .list []) hsn
    have hs1 : up (up H z0 (.list [])) sn (.list []) sn = some (.list (txs [])) := Zad
    have hsn0 := E0.none hsn
    generalize up (up H z0 (.list [])) sn (.list []) = H1 at E1 hs1
    refine w_st fun K nx => ?_
    dsimp only [Zba]
    refine ⟨rfl, ?_⟩
    dsimp only [Zae]
    show WFor _ _ (.ref l) _ _
    refine Zcw (xs := ts.map .ref) (by simp only [Zan, E1 _ _ hl]) (PdI H L l pu sn) ⟨none, none, [], rfl, E1, hs1, Nat.zero_le _, rfl⟩ ?_
    rintro I hI k V' H' ⟨p3, p4, seen, rfl, hE, hs, hsl, hd⟩
    refine ⟨by show H' l = H1 l; rw [hE _ _ hl, E1 _ _ hl], fun hk => ?_, fun x hx => ?_⟩
    · rw [List.length_map, hll] at hk
      refine nx _ _ ?_
      dsimp only [Zas, Za8, Zag]
      have := q H' hE
      rw [hd, hk, List.drop_length] at this
      exact this
    rw [List.getElem?_map, Option.map_eq_some_iff] at hx
    obtain ⟨t, ht, rfl⟩ := hx
    obtain ⟨e, he, _, htt, k1, k2⟩ := Zb3 hp ht
    have htt := hE _ _ htt
    have hdr : L.drop k = e :: L.drop (k + 1) := by
      obtain ⟨hk, rfl⟩ := List.getElem?_eq_some_iff.mp he
      exact List.drop_eq_getElem_cons hk
    rw [hdr, Zod] at hd
    show Zbi 2 (.ref t) H' _
    unfold Zbi
    dsimp only
    rw [htt]
    refine ⟨rfl, ?_⟩
    show wpSs _ _ _ _ _ [some (.ref l), some (.ref pu), some (.ref sn), some e.1, some e.2] _
    refine w_st fun K2 nx2 => ?_
    refine Eq.mpr (Zax) (Eq.mpr (Zak) (Eq.mpr (Zae) ?_))
    show wpX _ (.var 1) _ _ _ _
    dsimp only [Zae]
    show wcmp .NotIn e.1 (.ref pu) _ _
    dsimp only [Zdt]
    refine Zln k1 (hE _ _ hpu) ?_
    dsimp only [Zai]
    show if (inP e.1 != true) = true then _ else _
    cases hin : inP e.1 with
    | false =>
      rw [hin, if_neg Bool.false_ne_true] at hd
      show wpSs _ [.ret (.lit (.str (S8 "NoPurse")))] _ _ _ _ _
      dsimp only [Zas, Za8, Zag]
      have := q H' hE
      rw [hd] at this; exact this
    | true =>
    rw [hin, if_pos rfl] at hd
    refine nx2 _ _ ?_
    have hkv : e.1 = .str (Zaz e.1) := by
      revert hin; unfold inP inL
      cases e.1 with
      | str s => exact fun _ => rfl
      | _ => exact fun h => by cases h
    refine w_st fun K3 nx3 => ?_
    refine Eq.mpr (Zax) (Eq.mpr (Zak) (Eq.mpr (Zae) ?_))
    show wpX _ (.var 2) _ _ _ _
    dsimp only [Zae]
    show wcmp .In e.1 (.ref sn) _ _
    (dsimp only [c_in]; rw [hkv])
    refine Znp hs ?_
    (dsimp only [Zai]; rw [show ((decide (Zaz e.1 ∈ seen)) != false) = decide (Zaz e.1 ∈ seen) from Bool.xor_false _])
    by_cases hse : Zaz e.1 ∈ seen
    · rw [if_pos hse] at hd
      (rw [decide_eq_true hse]; refine Eq.mpr (if_pos rfl) ?_)
      show wpSs _ [.ret (.lit (.str (S8 "Twice")))] _ _ _ _ _
      dsimp only [Zas, Za8, Zag]
      have := q H' hE
      rw [hd] at this; exact this
    rw [if_neg hse] at hd
    (rw [decide_eq_false hse]; refine Eq.mpr (if_neg Bool.false_ne_true) ?_)
    refine nx3 _ _ ?_
    refine w_st fun K4 nx4 => ?_
    dsimp only [Zax, x_ao, Zat, Za9, Zal, Zac, Zae]
    show CallOK _ _ _ _ [e.2] _ _ _
    refine Zns G k2 ?_
    have bad : Zb1 e.2 = false → wpSs ⟨c, n + 1, true⟩ [.ret (.lit (.str (S8 "NoAmount")))] K4 Q (fun cl V H => E cl H) [some (.ref l), some (.ref pu), some (.ref sn), some e.1, some e.2] H' := fun h => by
      rw [h, if_neg Bool.false_ne_true] at hd
      dsimp only [Zas, Za8, Zag]
      have := q H' hE
      rw [hd] at this; exact this
    cases hw : Zbv e.2 with
    | false =>
      refine bad ?_
      revert hw
      cases e.2 <;> first | exact fun _ => rfl | exact fun h => by cases h
    | true =>
    obtain ⟨i, hi⟩ : ∃ i, e.2 = .int i := by
      revert hw
      cases e.2 with
      | int i => exact fun _ => ⟨i, rfl⟩
      | _ => exact fun h => by cases h
    rw [hi] at hd bad ⊢
    show wpAO _ false [_, _] _ _ _ _
    dsimp only [Zat, Zak, Zae]
    show wpX _ (.lit (.int 1)) _ _ _ _
    dsimp only [Zag]
    show wcmp .Lt (.int i) (.int 1) _ _
    refine Eq.mpr (c_lt) (Eq.mpr (Zai) ?_)
    by_cases h1 : i < 1
    · (rw [decide_eq_true h1]; refine Eq.mpr (if_neg (by decide)) ?_; dsimp only [Zai])
      exact bad (decide_eq_false fun z => by lia)
    (rw [decide_eq_false h1]; refine Eq.mpr (if_pos rfl) ?_; dsimp only [Za5, Zak, Zae])
    show wpX _ (.bin .Pow (.lit (.int 10)) (.lit (.int 30))) _ _ _ _
    dsimp only [Zaw, Zag, Zdb]
    refine ⟨⟨by decide, by decide, by decide +kernel⟩, ?_⟩
    show wcmp .Gt (.int i) (.int _) _ _
    dsimp only [c_gt, Zai]
    by_cases h2 : (10 : Int) ^ (30 : Int).toNat < i
    · rw [decide_eq_true h2]
      exact bad (decide_eq_false fun z => by have : (10 : Int) ^ (30 : Int).toNat = 1000000000000000000000000000000 := (by decide +kernel); lia)
    rw [decide_eq_false h2]
    refine nx4 _ _ ?_
    have ham : Zb1 (.int i) = true := decide_eq_true ⟨by lia, by have : (10 : Int) ^ (30 : Int).toNat = 1000000000000000000000000000000 := (by decide +kernel); lia⟩
    rw [ham, if_pos rfl] at hd
    show wpSs _ _ _ _ _ [some (.ref l), some (.ref pu), some (.ref sn), some (.str (Zaz e.1)), some (.int i)] _
    dsimp only [Zas, Zao, x_bm, Zae]
    refine ⟨?_, ?_⟩
    · show match H' sn with | some (.list _) => _ | some (.dict _ _) => _ | _ => False
      rw [hs]; exact .inl rfl
    dsimp only [Zac, Zae]
    show wpXs _ [] _ _ _ _
    dsimp only [Zaf]
    refine Zb5 hs (by rw [Za2]; have := (List.getElem?_eq_some_iff.mp he).1; lia) ?_
    rw [Zdv]
    show I (k + 1) _ _
    refine hI _ _ _ ⟨_, _, seen ++ [Zaz e.1], rfl, hE.own hsn0, Zad, by rw [List.length_append]; exact Nat.succ_le_succ hsl, hd⟩
  show Zbh (.bool (PyData.eqvAll (L.map dP2) [])) _ _
  refine Eq.mpr (Zai) ?_
  cases L with
  | nil =>
    (refine Eq.mpr (if_neg (by decide)) ?_; dsimp only [Zai])
    show wpSs _ [.ret (.lit (.str (S8 "NoRow")))] _ _ _ _ _
    dsimp only [Zas, Za8, Zag]
    have := q _ E0
    rw [if_neg (by decide)] at this; exact this
  | cons e r =>
    (rw [show PyData.eqvAll (List.map dP2 (e :: r)) [] = false from rfl]; refine Eq.mpr (if_pos rfl) ?_; dsimp only [Za5, Zak, Zar, Zac, Zae])
    show wpXs _ [] _ _ _ _
    dsimp only [Zaf]
    refine Zog hl0 (by rw [List.length_map, hll]; lia) ?_
    (dsimp only [Zag, c_gt, Zai]; rw [List.length_map, hll])
    by_cases h8 : (8 : Int) < ((e :: r).length : Nat)
    · rw [decide_eq_true h8]
      show wpSs _ [.ret (.lit (.str (S8 "NoRow")))] _ _ _ _ _
      dsimp only [Zas, Za8, Zag]
      have := q _ E0
      rw [if_neg (by lia)] at this; exact this
    · rw [decide_eq_false h8]
      exact key ⟨Nat.succ_le_succ (Nat.zero_le _), by lia⟩
end
end Mine
end
section
open PySem PySem.W PyProof.Rows PySem.Spec PySem.SeqAt PySem.Calls
namespace Mine
open L08
noncomputable def wh (l : List (AV × AV)) : List Int := l.filterMap fun e => if Zbv e.2 then some (Zc9 e.2) else none
noncomputable def tot (l : List (AV × AV)) : Int := (wh l).sum
noncomputable def totF (H : Zaa) (x : AV) : Option AV := (snd2 H x).bind fun w => if Zbv w then some w else none
theorem Zi6 {v : AV} (h : Zbv v = true) : v = .int (Zc9 v) := by
  cases v with
  | int i => rfl
  | _ => cases h
theorem Zlp {H : Zaa} {t : Addr} {u w : AV} (h : H t = some (.tuple [u, w])) : totF H (.ref t) = if Zbv w then some w else none := by
  unfold totF; rw [Zip h]; rfl
theorem Zlq {H : Zaa} : ∀ {ts : List Addr} {l : List (AV × AV)}, pairsH H ts l → (ts.map AV.ref).filterMap (totF H) = (wh l).map AV.int
  | [], [], _ => rfl
  | t :: ts, e :: l, h => by
    rw [List.map_cons, List.filterMap_cons, Zlp h.1.2.1, Zlq h.2]
    unfold wh
    rw [List.filterMap_cons]
    cases hw : Zbv e.2 with
    | false => rfl
    | true => rw [if_pos rfl, if_pos rfl, Zi6 hw]; rfl
  | [], _ :: _, h => h.elim
  | _ :: _, [], h => h.elim
noncomputable def odd8 : List AV := [.str (S8 "Yet"), .int 9, .str (S8 ""), .str (S8 "abcdefghijklm"), .str (S8 "a b"), .none]
noncomputable def Zk6 : List AV → List Str → Str
  | [], _ => S8 ""
  | v :: r, seen => if Zbz v then (if Zaz v ∈ seen then S8 "Twice" else if Zaz v = S8 "bob" then S8 "Fallen" else Zk6 r (seen ++ [Zaz v])) else S8 "NoName"
theorem Zox {v : AV} {r : List AV} {seen : List Str} : Zk6 (v :: r) seen = if Zbz v then (if Zaz v ∈ seen then S8 "Twice" else if Zaz v = S8 "bob" then S8 "Fallen" else Zk6 r (seen ++ [Zaz v])) else S8 "NoName" := rfl
noncomputable def ndue (k : Str) (l : List AV) : Str := if l.length ≤ 8 then Zk6 l [k] else S8 "NoRow"
noncomputable def oddB (v : AV) : Bool := odd8.any fun w => PyData.eqv (dV w) (dV v)
structure Nd (v : AV) : Prop where
  kv : Kv v
  is : Zbz v = !oddB v
theorem Zvq : ∀ w ∈ odd8, Kv w := by
  intro w hw
  simp only [odd8, List.mem_cons, List.not_mem_nil, or_false] at hw
  rcases hw with rfl | rfl | rfl | rfl | rfl | rfl
  · exact Kv.str (by decide)
  · exact Kv.int
  · exact Kv.str (by decide)
  · exact Kv.str (by decide)
  · exact Kv.str (by decide)
  · exact Kv.none
section
variable {c : Cx} (G : Gd c L08.P) {n : Nat} {md : Bool} {V : VV} {Q : AV → Zaa → Prop} {E : String → Zaa → Prop} {H : Zaa}
include G
theorem Znt {l : Addr} {ts : List Addr} {L : List (AV × AV)} (hl : H l = some (.list (ts.map .ref))) (hp : pairsH H ts L) (hlen : L.length ≤ 100) (q : ∀ H', Ext H H' → Q (.int (tot L)) H') : CallOK c (n + 2) true "_law_total" [.ref l] Q E H := by
  refine G.call (F := L08.f__law_total) rfl rfl ?_
  show wpSs _ [.ret (.prim .sum [.comp (.var 2) 2 true (.var 0) (some (.call "_law_whole" [.var 2]))])] _ _ _ [some (.ref l)] _
  dsimp only [Zas, Za8, Zar, Zac, Zbd, Zae]
  refine ⟨rfl, ?_⟩
  show Zkj _ _ (.ref l) _
  refine Zd9 (xs := ts.map .ref) (by simp only [Zan, hl]) (by rw [List.length_map, Zbj hp]; exact Nat.le_trans hlen (by decide)) (totF H) (fun y hy H' hE nx hnx => ?_) fun a H' hE ha => ?_
  · obtain ⟨t, ht, rfl⟩ := List.mem_map.mp hy
    obtain ⟨m, hm, rfl⟩ := List.mem_iff_getElem.mp ht
    obtain ⟨e, he, _, htt, k1, k2⟩ := Zb3 hp (List.getElem?_eq_getElem hm)
    have hnx := hnx H' .refl
    rw [Zlp htt] at hnx
    rw [if_pos rfl]
    show Zbi 2 (.ref _) H' _
    unfold Zbi
    dsimp only
    rw [hE _ _ htt]
    refine ⟨rfl, ?_⟩
    dsimp only [Zbt, Zal, Zac, Zae]
    show CallOK _ _ _ _ [e.2] _ _ _
    refine Zns G k2 ?_
    dsimp only [Zai]
    cases hw : Zbv e.2 with
    | false =>
      rw [hw] at hnx
      exact hnx
    | true =>
      rw [hw] at hnx
      rw [if_pos rfl]
      exact hnx
  · dsimp only [Zaf, Zhd]; rw [Zad]
    refine ⟨rfl, wh L, Zlq hp, ?_⟩
    exact q _ (hE.new ha)
inductive NdI (H : Zaa) (L : List AV) (own : AV) (k0 : Str) (l sn : Addr) (k : Nat) (V' : VV) (H' : Zaa) : Prop
  | mk (p3 : Option AV) (seen : List Str) (hV : V' = [some own, some (.ref l), some (.ref sn), p3]) (hE : Ext H H') (hs : H' sn = some (.list (txs seen))) (hl : seen.length ≤ k + 1) (hd : Zk6 L [k0] = Zk6 (L.drop k) seen) : NdI H L own k0 l sn k V' H'
theorem Ztp {k0 : Str} {l : Addr} {L : List AV} (hl : H l = some (.list L)) (hn : ∀ v ∈ L, Nd v) (hlen : L.length ≤ 100) (q : ∀ H', Ext H H' → Q (.str (ndue k0 L)) H') : CallOK c (n + 2) true "_law_needs_due" [.str k0, .ref l] Q E H := by
  refine G.call (F := L08.f__law_needs_due) rfl rfl ?_
  show wpSs _ _ _ _ _ [some (.str k0), some (.ref l), none, none] _
  refine w_st fun K nx => ?_
  dsimp only [Zax, Zak, Zar, Zac, Zae]
  show wpXs _ [] _ _ _ _
  dsimp only [Zaf]
  refine Zog hl (by lia) ?_
  dsimp only [Zag, c_gt, Zai]
  unfold ndue at q
  by_cases h8 : (8 : Int) < (L.length : Nat)
  · rw [decide_eq_true h8]
    show wpSs _ [.ret (.lit (.str (S8 "NoRow")))] _ _ _ _ _
    dsimp only [Zas, Za8, Zag]
    have := q _ .refl
    rw [if_neg (by lia)] at this; exact this
  rw [decide_eq_false h8]
  rw [if_pos (by lia)] at q
  refine nx _ _ ?_
  refine w_st fun K nx => ?_
  dsimp only [Zaj, Zam, Zac, Zae]
  show wpXs _ [] _ _ _ _
  dsimp only [Zaf]
  intro sn hsn
  refine ⟨show 2 < 4 by decide, nx _ _ ?_⟩
  have E1 := Ext.refl.new (o := .list (txs [k0])) hsn
  show wpSs _ _ _ _ _ _ (up H sn (.list (txs [k0])))
  have hs1 : up H sn (.list (txs [k0])) sn = some (.list (txs [k0])) := Zad
  generalize up H sn (.list (txs [k0])) = H1 at E1 hs1
  refine w_st fun K nx => ?_
  dsimp only [Zba]
  refine ⟨rfl, ?_⟩
  dsimp only [Zae]
  show WFor _ _ (.ref l) _ _
  refine Zcw (xs := L) (by simp only [Zan, E1 _ _ hl]) (NdI H L (.str k0) k0 l sn) ⟨none, [k0], rfl, E1, hs1, Nat.le_refl _, rfl⟩ ?_
  rintro I hI k V' H' ⟨p3, seen, rfl, hE, hs, hsl, hd⟩
  refine ⟨by show H' l = H1 l; rw [hE _ _ hl, E1 _ _ hl], fun hk => ?_, fun x hx => ?_⟩
  · refine nx _ _ ?_
    dsimp only [Zas, Za8, Zag]
    have := q H' hE
    rw [hd, hk, List.drop_length] at this
    exact this
  have nd := hn x (List.mem_of_getElem? hx)
  have hdr : L.drop k = x :: L.drop (k + 1) := by
    obtain ⟨hk, rfl⟩ := List.getElem?_eq_some_iff.mp hx
    exact List.drop_eq_getElem_cons hk
  rw [hdr, Zox] at hd
  refine ⟨show 3 < 4 by decide, ?_⟩
  show wpSs _ _ _ _ _ [some (.str k0), some (.ref l), some (.ref sn), some x] _
  refine w_st fun K2 nx2 => ?_
  dsimp only [Zax, Zak, Zae]
  show wpX _ (.list [.lit (.str (S8 "Yet")), .lit (.int 9), .lit (.str (S8 "")), .lit (.str (S8 "abcdefghijklm")), .lit (.str (S8 "a b")), .lit .none]) _ _ _ _
  dsimp only [Zam, Zac, Zag, Zaf]
  intro zo hzo
  have hzo1 : up H' zo (.list odd8) zo = some (.list odd8) := Zad
  have E2 := Ext.refl.new (o := .list odd8) hzo
  show wcmp .In x (.ref zo) _ (up H' zo (.list odd8))
  generalize up H' zo (.list odd8) = H2 at hzo1 E2
  have hE2 := hE.trans E2
  have hs2 := E2 _ _ hs
  dsimp only [c_in]
  refine Zuq nd.kv Zvq hzo1 ?_
  (dsimp only [Zai]; rw [show ((odd8.any fun w => PyData.eqv (dV w) (dV x)) != false) = oddB x from Bool.xor_false _])
  cases ho : oddB x with
  | true =>
    rw [nd.is, ho] at hd
    show wpSs _ [.ret (.lit (.str (S8 "NoName")))] _ _ _ _ _
    dsimp only [Zas, Za8, Zag]
    have := q H2 hE2
    rw [hd] at this; exact this
  | false =>
  have hnb : Zbz x = true := by rw [nd.is, ho]; rfl
  rw [hnb, if_pos rfl] at hd
  obtain ⟨kx, rfl⟩ : ∃ kx, x = .str kx := ⟨_, Zcs hnb⟩
  refine nx2 _ _ ?_
  refine w_st fun K3 nx3 => ?_
  refine Eq.mpr (Zax) (Eq.mpr (Zak) (Eq.mpr (Zae) ?_))
  show wpX _ (.var 2) _ _ _ _
  dsimp only [Zae]
  show wcmp .In (.str kx) (.ref sn) _ _
  dsimp only [c_in]
  refine Znp hs2 ?_
  (dsimp only [Zai]; rw [show ((decide (kx ∈ seen)) != false) = decide (kx ∈ seen) from Bool.xor_false _])
  by_cases hse : kx ∈ seen
  · rw [if_pos (show Zaz (.str kx) ∈ seen from hse)] at hd
    (rw [decide_eq_true hse]; refine Eq.mpr (if_pos rfl) ?_)
    show wpSs _ [.ret (.lit (.str (S8 "Twice")))] _ _ _ _ _
    dsimp only [Zas, Za8, Zag]
    have := q H2 hE2
    rw [hd] at this; exact this
  rw [if_neg (show ¬ Zaz (.str kx) ∈ seen from hse)] at hd
  (rw [decide_eq_false hse]; refine Eq.mpr (if_neg Bool.false_ne_true) ?_)
  refine nx3 _ _ ?_
  refine w_st fun K4 nx4 => ?_
  dsimp only [Zax, Zak, Zae]
  show wpX _ (.lit (.str (S8 "bob"))) _ _ _ _
  dsimp only [Zag]
  show wcmp .Eq (.str kx) (.str (S8 "bob")) _ _
  dsimp only [Zci, Zai]
  by_cases hb : kx = S8 "bob"
  · rw [if_pos (show Zaz (.str kx) = S8 "bob" from hb)] at hd
    refine Eq.mpr (if_pos (beq_iff_eq.mpr hb)) ?_
    show wpSs _ [.ret (.lit (.str (S8 "Fallen")))] _ _ _ _ _
    dsimp only [Zas, Za8, Zag]
    have := q H2 hE2
    rw [hd] at this; exact this
  rw [if_neg (show ¬ Zaz (.str kx) = S8 "bob" from hb)] at hd
  refine Eq.mpr (if_neg (fun e => hb (beq_iff_eq.mp e))) ?_
  refine nx4 _ _ ?_
  dsimp only [Zas, Zao, x_bm, Zae]
  refine ⟨?_, ?_⟩
  · show match H2 sn with | some (.list _) => _ | some (.dict _ _) => _ | _ => False
    rw [hs2]; exact .inl rfl
  dsimp only [Zac, Zae]
  show wpXs _ [] _ _ _ _
  dsimp only [Zaf]
  refine Zb5 hs2 (by rw [Za2]; have := (List.getElem?_eq_some_iff.mp hx).1; lia) ?_
  show I (k + 1) _ (up H2 sn (.list (txs seen ++ [.str kx])))
  rw [Zdv]
  exact hI _ _ _ ⟨_, seen ++ [kx], rfl, hE2.own hsn, Zad, by rw [List.length_append]; exact Nat.succ_le_succ hsl, hd⟩
end
end Mine
end
section
open PySem PySem.W PyProof.Rows PySem.Spec PySem.SeqAt PySem.Calls
namespace Mine
open L08
noncomputable def four8 : List Str := [S8 "ann", S8 "bob", S8 "dan", S8 "cleo"]
inductive Nm8 (H : Zaa) (v : AV) : Prop
  | kv (h : Kv v) (k : inL four8 v = Zbz v) : Nm8 H v
  | lst (z : Addr) (e : v = .ref z) (h : H z = some (.list (txs [S8 "a"]))) : Nm8 H v
theorem Nm8.ext {H H' : Zaa} {v : AV} (h : Nm8 H v) (e : Ext H H') : Nm8 H' v := by
  cases h with
  | kv h k => exact .kv h k
  | lst z q h => exact .lst z q (e _ _ h)
theorem Nm8.kn {H : Zaa} {v : AV} (h : Nm8 H v) : Kn H v := by
  cases h with
  | kv h k => exact h.kn
  | lst z q h => subst q; exact ⟨⟨"list", by simp only [Zfr, h]⟩, fun s e => by cases e⟩
theorem Nm8.four {H : Zaa} {v : AV} (h : Nm8 H v) : inL four8 v = Zbz v := by
  cases h with
  | kv h k => exact k
  | lst z q h => subst q; rfl
theorem Nm8.win {H : Zaa} {v : AV} (h : Nm8 H v) {Q : AV → Zaa → Prop} {no : Bool} {a : Addr} (ha : H a = some (.list (txs four8))) (q : Q (.bool (inL four8 v != no)) H) : win no v (.ref a) Q H := by
  cases h with
  | kv h k => exact Zln h ha q
  | lst z e h =>
    subst e
    (dsimp only [Zd4]; rw [ha])
    refine ⟨.list [.str (S8 "a")], four8.map PyData.str, .list h (.cons (.str _) .nil), Zg4, ⟨rfl, by decide⟩, Zfl, ?_⟩
    rw [show ((four8.map PyData.str).any fun y => PyData.eqv y (.list [.str (S8 "a")])) = false from rfl, ← Ziv]; exact q
noncomputable def e8 (a : Str) (b : Str) : Str := if a = S8 "" then b else a
noncomputable def due2 (pL gL : List (AV × AV)) (nL : List AV) (last : AV) : Str :=
  e8 (e8 (e8 (e8 (pdue pL) (pdue gL)) (if tot pL = tot gL then S8 "" else S8 "Uneven")) (ndue (S8 "cleo") nL)) (if Zbv last = true ∧ ¬ Zc9 last < 2 then S8 "" else S8 "NoDay")
noncomputable def due8 (v : AV) (pL gL : List (AV × AV)) (nL : List AV) (last : AV) : Str := if Zbz v then (if Zaz v = S8 "cleo" then due2 pL gL nL last else S8 "Taken") else S8 "NoName"
structure Row8 (H : Zaa) (r : Addr) (v : AV) (pl gl nl : Addr) (ts us : List Addr) (pL gL : List (AV × AV)) (nL : List AV) (last : AV) : Prop where
  r : H r = some (.list [v, .ref pl, .ref gl, .ref nl, last])
  v : Nm8 H v
  p : H pl = some (.list (ts.map .ref))
  pp : pairsH H ts pL
  g : H gl = some (.list (us.map .ref))
  gg : pairsH H us gL
  n : H nl = some (.list nL)
  nn : ∀ v ∈ nL, Nd v
  l : Kv last
  l1 : pL.length ≤ 100
  l2 : gL.length ≤ 100
  l3 : nL.length ≤ 100
theorem Row8.ext {H H' : Zaa} {r : Addr} {v : AV} {pl gl nl : Addr} {ts us : List Addr} {pL gL : List (AV × AV)} {nL : List AV} {last : AV} (x : Row8 H r v pl gl nl ts us pL gL nL last) (e : Ext H H') : Row8 H' r v pl gl nl ts us pL gL nL last :=
  ⟨e _ _ x.r, x.v.ext e, e _ _ x.p, x.pp.ext e, e _ _ x.g, x.gg.ext e, e _ _ x.n, x.nn, x.l, x.l1, x.l2, x.l3⟩
theorem Zmt {Q : AV → Zaa → Prop} {H : Zaa} {a : Addr} {xs : List AV} {j : Nat} {v : AV} (h : H a = some (.list xs)) (hj : xs[j]? = some v) (hl : xs.length ≤ 1000) (q : Q v H) : wsub (.ref a) (.int j) Q H := by
  rw [Zg2, h]
  have hlt := (List.getElem?_eq_some_iff.mp hj).1
  refine ⟨j, v, ?_, by lia, by lia, hj, q⟩
  unfold Zgk
  rw [if_pos (Int.natCast_nonneg j), if_pos (by lia)]; rfl
section
variable {c : Cx} (G : Gd c L08.P) {n : Nat} {md : Bool} {V : VV} {Q : AV → Zaa → Prop} {E : String → Zaa → Prop} {H : Zaa} {r pu : Addr} {v last : AV} {pl gl nl : Addr} {ts us : List Addr} {pL gL : List (AV × AV)} {nL : List AV}
theorem Zd7 {g : Gx} {i : Nat} {j : Nat} {w : AV} (R : Row8 H r v pl gl nl ts us pL gL nL last) (hV : V[i]? = some (some (.ref r))) (hj : [v, .ref pl, .ref gl, .ref nl, last][j]? = some w) (q : Q w H) : wpX g (.sub (.var i) (.lit (.int j))) V Q E H := by
  (dsimp only [Zau, Zae]; rw [hV])
  show wpX g (.lit (.int j)) V _ E H
  dsimp only [Zag]
  exact Zmt R.r hj (show 5 ≤ 1000 by decide) q
include G
theorem Zwm (R : Row8 H r v pl gl nl ts us pL gL nL last) (hpu : H pu = some (.list (txs pu8))) (q : ∀ H', Ext H H' → Q (.str (due8 v pL gL nL last)) H') : CallOK c (n + 3) true "_law_due" [.ref r, .ref pu] Q E H := by
  refine G.call (F := L08.f__law_due) rfl rfl ?_
  show wpSs _ _ _ _ _ [some (.ref r), some (.ref pu), none] _
  unfold due8 at q
  refine w_st fun K nx => ?_
  dsimp only [Zax, Zak]
  refine Zd7 (j := 0) R rfl rfl ?_
  show wpX _ (.list [.lit (.str (S8 "ann")), .lit (.str (S8 "bob")), .lit (.str (S8 "dan")), .lit (.str (S8 "cleo"))]) _ _ _ _
  dsimp only [Zam, Zac, Zag, Zaf]
  intro z hz
  have hz1 : up H z (.list (txs four8)) z = some (.list (txs four8)) := Zad
  have E1 := Ext.refl.new (o := .list (txs four8)) hz
  show wcmp .NotIn v (.ref z) _ (up H z (.list (txs four8)))
  generalize up H z (.list (txs four8)) = H1 at hz1 E1
  have R1 := R.ext E1
  dsimp only [Zdt]
  refine R1.v.win hz1 ?_
  (dsimp only [Zai]; rw [R1.v.four])
  cases hnb : Zbz v with
  | false =>
    rw [hnb] at q
    show wpSs _ [.ret (.lit (.str (S8 "NoName")))] _ _ _ _ _
    dsimp only [Zas, Za8, Zag]
    exact q _ E1
  | true =>
  rw [hnb, if_pos rfl] at q
  obtain ⟨k, rfl⟩ : ∃ k, v = .str k := ⟨_, Zcs hnb⟩
  refine nx _ _ ?_
  refine w_st fun K nx => ?_
  dsimp only [Zax, Zak]
  refine Zd7 (j := 0) R1 rfl rfl ?_
  dsimp only [Zag]
  show wcmp .NotEq (.str k) (.str (S8 "cleo")) _ _
  dsimp only [Zdp, Zai]
  by_cases hk : ¬ k = S8 "cleo"
  · rw [if_neg (show ¬ Zaz (.str k) = S8 "cleo" from hk)] at q
    refine Eq.mpr (if_pos (bne_iff_ne.mpr hk)) ?_
    show wpSs _ [.ret (.lit (.str (S8 "Taken")))] _ _ _ _ _
    dsimp only [Zas, Za8, Zag]
    exact q _ E1
  have hk := Classical.not_not.mp hk
  rw [if_pos (show Zaz (.str k) = S8 "cleo" from hk)] at q
  subst hk
  refine Eq.mpr (if_neg (by decide +kernel)) ?_
  refine nx _ _ ?_
  refine w_st fun K nx => ?_
  dsimp only [Zaj, Zal, Zac]
  refine Zd7 (j := 1) R1 rfl rfl ?_
  dsimp only [Zac, Zae]
  show wpXs _ [] _ _ _ _
  dsimp only [Zaf]
  refine Zoc G R1.p R1.pp (E1 _ _ hpu) R1.l1 fun H2 E2 => ?_
  have R2 := R1.ext E2
  refine ⟨show 2 < 3 by decide, nx _ _ ?_⟩
  show wpSs _ _ _ _ _ [some (.ref r), some (.ref pu), some (.str (pdue pL))] _
  unfold due2 at q
  generalize pdue pL = f1 at q
  refine w_st fun K nx => ?_
  suffices go : ∀ H3, Ext H2 H3 → K [some (.ref r), some (.ref pu), some (.str (e8 f1 (pdue gL)))] H3 by
    dsimp only [Zax, Zak, Zae]
    show wpX _ (.lit (.str (S8 ""))) _ _ _ _
    dsimp only [Zag]
    show wcmp .Eq (.str f1) (.str (S8 "")) _ _
    dsimp only [Zci, Zai]
    by_cases h1 : f1 = S8 ""
    · refine Eq.mpr (if_pos (beq_iff_eq.mpr h1)) ?_
      dsimp only [Zas, Zaj, Zal, Zac]
      refine Zd7 (j := 2) R2 rfl rfl ?_
      dsimp only [Zac, Zae]
      show wpXs _ [] _ _ _ _
      dsimp only [Zaf]
      refine Zoc G R2.g R2.gg (E2 _ _ (E1 _ _ hpu)) R2.l2 fun H3 E3 => ⟨show 2 < 3 by decide, ?_⟩
      have := go H3 E3
      rw [show e8 f1 (pdue gL) = pdue gL from if_pos h1] at this
      exact this
    · refine Eq.mpr (if_neg (fun e => h1 (beq_iff_eq.mp e))) ?_
      have := go H2 .refl
      rw [show e8 f1 (pdue gL) = f1 from if_neg h1] at this
      exact this
  intro H3 E3
  refine nx _ _ ?_
  have R3 := R2.ext E3
  have E13 := (E1.trans E2).trans E3
  generalize e8 f1 (pdue gL) = f2 at q
  refine w_st fun K nx => ?_
  suffices go : ∀ H4, Ext H3 H4 → K [some (.ref r), some (.ref pu), some (.str (e8 f2 (if tot pL = tot gL then S8 "" else S8 "Uneven")))] H4 by
    dsimp only [Zax, x_ao, Zat, Zak, Zae]
    show wpX _ (.lit (.str (S8 ""))) _ _ _ _
    dsimp only [Zag]
    show wcmp .Eq (.str f2) (.str (S8 "")) _ _
    refine Eq.mpr (Zci) (Eq.mpr (Zai) ?_)
    by_cases h2 : f2 = S8 ""
    · refine Eq.mpr (if_pos (beq_iff_eq.mpr h2)) (Eq.mpr (Za5) (Eq.mpr (Zak) (Eq.mpr (Zal) (Eq.mpr (Zac) ?_))))
      refine Zd7 (j := 1) R3 rfl rfl ?_
      rw [Zaf]
      refine Znt G R3.p R3.pp R3.l1 fun H4 E4 => ?_
      have R4 := R3.ext E4
      rw [Zal, Zac]
      refine Zd7 (j := 2) R4 rfl rfl ?_
      dsimp only [Zaf]
      refine Znt G R4.g R4.gg R4.l2 fun H5 E5 => ?_
      have := go H5 (E4.trans E5)
      rw [show e8 f2 (if tot pL = tot gL then S8 "" else S8 "Uneven") = (if tot pL = tot gL then S8 "" else S8 "Uneven") from if_pos h2] at this
      dsimp only [c_ne, Zai]
      by_cases ht : tot pL = tot gL
      · rw [if_pos ht] at this
        refine Eq.mpr (if_neg (fun e => (bne_iff_ne.mp e) ht)) ?_
        rw [h2]; exact this
      · rw [if_neg ht] at this
        refine Eq.mpr (if_pos (bne_iff_ne.mpr ht)) ?_
        show wpSs _ [.assign (.var 2) (.lit (.str (S8 "Uneven")))] _ _ _ _ _
        dsimp only [Zas, Zaj, Zag]
        exact ⟨show 2 < 3 by decide, this⟩
    · (refine Eq.mpr (if_neg (fun e => h2 (beq_iff_eq.mp e))) ?_; rw [show (f2 == S8 "") = false from beq_false_of_ne h2]; dsimp only [Zai])
      have := go H3 .refl
      rw [show e8 f2 (if tot pL = tot gL then S8 "" else S8 "Uneven") = f2 from if_neg h2] at this
      exact this
  intro H4 E4
  refine nx _ _ ?_
  have R4 := R3.ext E4
  have E14 := E13.trans E4
  generalize e8 f2 (if tot pL = tot gL then S8 "" else S8 "Uneven") = f3 at q
  refine w_st fun K nx => ?_
  suffices go : ∀ H5, Ext H4 H5 → K [some (.ref r), some (.ref pu), some (.str (e8 f3 (ndue (S8 "cleo") nL)))] H5 by
    dsimp only [Zax, Zak, Zae]
    show wpX _ (.lit (.str (S8 ""))) _ _ _ _
    dsimp only [Zag]
    show wcmp .Eq (.str f3) (.str (S8 "")) _ _
    dsimp only [Zci, Zai]
    by_cases h3 : f3 = S8 ""
    · refine Eq.mpr (if_pos (beq_iff_eq.mpr h3)) ?_
      refine Eq.mpr (Zas) (Eq.mpr (Zaj) (Eq.mpr (Zal) (Eq.mpr (Zac) ?_)))
      refine Zd7 (j := 0) R4 rfl rfl ?_
      dsimp only [Zac]
      refine Zd7 (j := 3) R4 rfl rfl ?_
      dsimp only [Zaf]
      refine Ztp G R4.n R4.nn R4.l3 fun H5 E5 => ⟨show 2 < 3 by decide, ?_⟩
      have := go H5 E5
      rw [show e8 f3 (ndue (S8 "cleo") nL) = ndue (S8 "cleo") nL from if_pos h3] at this
      exact this
    · refine Eq.mpr (if_neg (fun e => h3 (beq_iff_eq.mp e))) ?_
      have := go H4 .refl
      rw [show e8 f3 (ndue (S8 "cleo") nL) = f3 from if_neg h3] at this
      exact this
  intro H5 E5
  refine nx _ _ ?_
  have R5 := R4.ext E5
  have E15 := E14.trans E5
  generalize e8 f3 (ndue (S8 "cleo") nL) = f4 at q
  refine w_st fun K nx => ?_
  suffices go : K [some (.ref r), some (.ref pu), some (.str (e8 f4 (if Zbv last = true ∧ ¬ Zc9 last < 2 then S8 "" else S8 "NoDay")))] H5 by
    dsimp only [Zax, x_ao, Zat, Zak, Zae]
    show wpX _ (.lit (.str (S8 ""))) _ _ _ _
    dsimp only [Zag]
    show wcmp .Eq (.str f4) (.str (S8 "")) _ _
    refine Eq.mpr (Zci) (Eq.mpr (Zai) ?_)
    by_cases h4 : f4 = S8 ""
    · rw [show e8 f4 (if Zbv last = true ∧ ¬ Zc9 last < 2 then S8 "" else S8 "NoDay") = (if Zbv last = true ∧ ¬ Zc9 last < 2 then S8 "" else S8 "NoDay") from if_pos h4] at go
      have bad : ¬ (Zbv last = true ∧ ¬ Zc9 last < 2) → wpSs ⟨c, n + 2, true⟩ [.assign (.var 2) (.lit (.str (S8 "NoDay")))] K Q (fun cl V H => E cl H) [some (.ref r), some (.ref pu), some (.str f4)] H5 := fun h => by
        rw [if_neg h] at go
        dsimp only [Zas, Zaj, Zag]
        exact ⟨show 2 < 3 by decide, go⟩
      (refine Eq.mpr (if_pos (beq_iff_eq.mpr h4)) ?_; dsimp only [Za5, x_ao, Zat, Za9, Zal, Zac])
      refine Zd7 (j := 4) R5 rfl rfl ?_
      dsimp only [Zaf]
      refine Zns G R5.l ?_
      cases hw : Zbv last with
      | false => exact bad fun z => by rw [hw] at z; exact Bool.false_ne_true z.1
      | true =>
      have hli := Zi6 hw
      show wpAO _ false [_] _ _ _ _
      dsimp only [Za5, Zak]
      refine Zd7 (j := 4) R5 rfl rfl ?_
      dsimp only [Zag]
      show wcmp .Lt last (.int 2) _ _
      (rw [hli]; dsimp only [c_lt, Zai])
      by_cases h2 : Zc9 last < 2
      · rw [decide_eq_true h2]
        exact bad fun z => z.2 h2
      · rw [decide_eq_false h2]
        rw [if_pos ⟨hw, h2⟩] at go
        rw [h4]; exact go
    · (refine Eq.mpr (if_neg (fun e => h4 (beq_iff_eq.mp e))) ?_; rw [show (f4 == S8 "") = false from beq_false_of_ne h4]; dsimp only [Zai])
      rw [show e8 f4 (if Zbv last = true ∧ ¬ Zc9 last < 2 then S8 "" else S8 "NoDay") = f4 from if_neg h4] at go
      exact go
  refine nx _ _ ?_
  dsimp only [Zas, Za8, Zae]
  exact q _ E15
end
end Mine
end
section
open PySem PySem.W PyProof.Rows PySem.Spec PySem.SeqAt PySem.Calls
namespace Mine
open L08
noncomputable def Zgl : List String := ["NoName", "Taken", "NoRow", "NoPurse", "Twice", "NoAmount", "Uneven", "Fallen", "NoDay"]
theorem sub9 : ∀ cl ∈ Zgl, ∀ cc ∈ Zgl, Zdj L08.P cl cc = (cc == cl) := by decide +kernel
theorem hsW {g : Gx} {V : VV} {QN : VV → Zaa → Prop} {QR : AV → Zaa → Prop} {E : String → VV → Zaa → Prop} {H : Zaa} {cl : String} (hP : g.c.P = L08.P) (hc : cl ∈ Zgl) (q : QR (.str (S8 cl)) H) :
    ∀ {cs : List String}, (∀ cc ∈ cs, cc ∈ Zgl) → cl ∈ cs → wpHs g (cs.map fun cc => .mk cc none [.ret (.lit (.str (S8 cc)))]) cl QN QR E V H
  | [], _, h => by cases h
  | cc :: cs, hs, h => by
    rw [List.map_cons, Ziz, Zua, hP, sub9 cl hc cc (hs cc (.head _))]
    cases hb : cc == cl with
    | true =>
      (refine Eq.mpr (if_pos rfl) ?_; dsimp only [Zas, Za8, Zag]; rw [beq_iff_eq.mp hb])
      exact q
    | false =>
      refine Eq.mpr (if_neg Bool.false_ne_true) ?_
      refine hsW hP hc q (fun c hc => hs c (.tail _ hc)) ?_
      cases h with
      | head => rw [beq_self_eq_true] at hb; cases hb
      | tail _ h => exact h
theorem Zh5 {B : Bk} : ∀ {l : List (AV × AV)} {acc : List (Str × Int)} {e : String}, Zdg B l acc = .error e → e ∈ Zgl
  | [], _, _, h => by cases h
  | x :: r, acc, e, h => by
    unfold Zdg at h
    split at h
    · split at h
      · cases h; decide
      · split at h
        · exact Zh5 h
        · cases h; decide
    · cases h; decide
theorem Zeo {B : Bk} {l : List (AV × AV)} {e : String} (h : Zcf B l = .error e) : e ∈ Zgl := by
  unfold Zcf at h
  split at h
  · exact Zh5 h
  · cases h; decide
theorem Zfz {B : Bk} : ∀ {l : List AV} {seen : List Str} {e : String}, Zev B l seen = .error e → e ∈ Zgl
  | [], _, _, h => by cases h
  | x :: r, acc, e, h => by
    unfold Zev at h
    split at h
    · split at h
      · cases h; decide
      · split at h
        · cases h; decide
        · exact Zfz h
    · cases h; decide
set_option tactic.hygienic true in
theorem Zg0 {B : Bk} {v last : AV} {pL gL : List (AV × AV)} {nL : List AV} {e : String} (h : Zdl B v pL gL nL last = .error e) : e ∈ Zgl := by
  unfold Zdl at h
  split at h
  · split at h
    · cases h; decide
    · split at h
      · cases h; exact Zeo (by assumption)
      · split at h
        · cases h; exact Zeo (by assumption)
        · split at h
          · cases h; decide
          · split at h
            · cases h
              rename_i hn
              unfold Zd3 at hn
              split at hn
              · exact Zfz hn
              · cases hn; decide
            · split at h
              · cases h
              · cases h; decide
  · cases h; decide
noncomputable def Zqt (r : Except String Bk) : Str := match r with
  | .ok _ => S8 ""
  | .error cl => S8 cl
noncomputable def Zkm (B : Bk) (r : Except String Bk) : Bk := match r with
  | .ok B' => B'
  | .error _ => B
section
variable {c : Cx} (G : Gd c L08.P) {n : Nat} {md : Bool} {V : VV} {Q : AV → Zaa → Prop} {E : String → Zaa → Prop} {H : Zaa} {r b : Addr} {v last : AV} {pl gl nl : Addr} {ts us : List Addr} {pL gL : List (AV × AV)} {nL : List AV} {B : Bk}
include G
theorem Zw4 (R : Row8 H r v pl gl nl ts us pL gL nL last) (hb : H b = some (.book B)) (ok : BkOK B) (q : Ends (Zdl B v pL gL nL last) (fun B' => Q .none (up H b (.book B'))) (fun cl => E cl H)) : CallOK c (n + 4) true "Book.tell" [.ref b, v, .ref pl, .ref gl, .ref nl, last] Q E H := by
  cases hnb : Zbz v with
  | false =>
    refine Zqs G U8.a rfl R.v.kn hnb ?_
    unfold Zdl at q
    rw [hnb, if_neg Bool.false_ne_true] at q
    exact q
  | true =>
    have kv : Kv v := by
      obtain ⟨k, rfl⟩ : ∃ k, v = .str k := ⟨_, Zcs hnb⟩
      exact Kv.str (R.v.kn.2 k rfl)
    exact Zsf G U8 rfl rfl rfl rfl (by rw [G.hP]; rfl) hb ok kv R.l R.p R.pp R.g R.gg R.n (fun w hw => (R.nn w hw).kv) (Nat.le_trans R.l1 (by decide)) (Nat.le_trans R.l2 (by decide)) (Nat.le_trans R.l3 (by decide)) q
theorem Zs4 (R : Row8 H r v pl gl nl ts us pL gL nL last) (hb : H b = some (.book B)) (ok : BkOK B)
    (q : ∀ H', Kb b H H' → H' b = some (.book (Zkm B (Zdl B v pL gL nL last))) → Q (.str (Zqt (Zdl B v pL gL nL last))) H') : CallOK c (n + 5) true "_law_told" [.ref b, .ref r] Q E H := by
  refine G.call (F := L08.f__law_told) rfl rfl ?_
  have hM : c.P.meths = BK.meths := by rw [G.hP]; rfl
  show wpSs _ _ _ _ _ [some (.ref b), some (.ref r), none] _
  refine w_st fun K nx => ?_
  dsimp only [Zdf]
  refine ⟨rfl, ?_⟩
  dsimp only [Zas, Zaj]
  refine Zbf hM (by decide) (by decide) hb rfl ?_
  rw [Zac]
  refine Zd7 (j := 0) R rfl rfl ?_
  rw [Zac]
  refine Zd7 (j := 1) R rfl rfl ?_
  rw [Zac]
  refine Zd7 (j := 2) R rfl rfl ?_
  rw [Zac]
  refine Zd7 (j := 3) R rfl rfl ?_
  dsimp only [Zac]
  refine Zd7 (j := 4) R rfl rfl ?_
  dsimp only [Zaf]
  refine Zw4 G R hb ok ?_
  revert q
  cases e : Zdl B v pL gL nL last with
  | error cl =>
    intro q
    exact hsW (g := ⟨c, n + 4, true⟩) G.hP (Zg0 e) (q H .refl hb) (cs := Zgl) (fun _ h => h) (Zg0 e)
  | ok B' =>
    intro q
    refine ⟨show 2 < 3 by decide, nx _ _ ?_⟩
    show wpSs _ _ _ _ _ [some (.ref b), some (.ref r), some .none] _
    dsimp only [Zas, Za8, Zau, Zam, Zac, Zag, Zac, Zag, Zaf]
    intro z hz
    dsimp only [Zar, Zac, Zak, Zae]
    show wpX _ (.lit .none) _ _ _ _
    dsimp only [Zag]
    show wsub (.ref z) (.int (if (AV.none == AV.none) = true then 1 else 0)) _ _
    rw [if_pos (by decide)]
    refine Zmt (j := 1) Zad rfl (show 2 ≤ 1000 by decide) (q _ ?_ ?_)
    · exact Kb.up.trans (Kb.ext (Ext.refl.new hz))
    · rw [Zab (fun e => by rw [← e, Zad] at hz; cases hz)]; exact Zad
end
end Mine
end
section
open PySem PySem.W PyProof.Rows PySem.Spec PySem.SeqAt PySem.Calls
namespace Mine
open L08
structure Is8 (B : Bk) : Prop where
  free : B.free.map (·.1) = pu8
  names : B.pacts.map (·.name) = [S8 "ann", S8 "bob", S8 "dan"]
  fallen : ∀ k, Zcn B k = decide (k = S8 "bob")
  day : B.day = 2
noncomputable def errW {α : Type} (r : Except String α) : Str := match r with
  | .ok _ => S8 ""
  | .error e => S8 e
theorem Zov : ∀ e ∈ Zgl, S8 e ≠ S8 "" := by decide +kernel
theorem Zob : ∀ k ∈ pu8, isNm k = true := by decide +kernel
section
variable {B : Bk} (I : Is8 B)
include I
theorem Zsj {w : AV} : Zbn B w = inP w := by
  cases w with
  | str k =>
    show (isNm k && hs B.free k) = decide (k ∈ pu8)
    rw [Zhn, I.free]
    by_cases h : k ∈ pu8
    · rw [Zob k h, decide_eq_true h]; rfl
    · rw [decide_eq_false h, Bool.and_false]
  | _ => rfl
theorem Zsk : ∀ {l : List (AV × AV)} {acc : List (Str × Int)}, errW (Zdg B l acc) = Zkw l (acc.map (·.1))
  | [], acc => rfl
  | e :: r, acc => by
    dsimp only [Zod]
    unfold Zdg
    rw [Zsj I]
    cases inP e.1 with
    | false => rfl
    | true =>
      rw [if_pos rfl, if_pos rfl]
      by_cases hm : Zaz e.1 ∈ acc.map (·.1)
      · rw [if_pos hm, if_pos hm]; rfl
      · rw [if_neg hm, if_neg hm]
        cases Zb1 e.2 with
        | false => rfl
        | true =>
          rw [if_pos rfl, if_pos rfl, Zsk, List.map_append]; rfl
theorem Zu9 {l : List (AV × AV)} : errW (Zcf B l) = pdue l := by
  unfold Zcf pdue
  by_cases h : 1 ≤ l.length ∧ l.length ≤ 8
  · rw [if_pos h, if_pos h, Zsk I]; rfl
  · rw [if_neg h, if_neg h]; rfl
omit I in
theorem Zqg {v : AV} (h : Zb1 v = true) : Zbv v = true := by
  cases v with
  | int i => rfl
  | _ => cases h
set_option tactic.hygienic true in
omit I in
theorem Zh4 : ∀ {l : List (AV × AV)} {acc r : List (Str × Int)}, Zdg B l acc = .ok r → sumL r = sumL acc + tot l
  | [], acc, r, h => by cases h; show _ = _ + (0 : Int); rw [Int.add_zero]
  | e :: l, acc, r, h => by
    unfold Zdg at h
    split at h
    · split at h
      · cases h
      · split at h
        · rename_i ha
          rw [Zh4 h]
          have hw := Zqg ha
          unfold tot wh sumL
          rw [List.filterMap_cons, hw, if_pos rfl, List.map_append, List.sum_append]
          show _ + (Zc9 e.2 + 0) + _ = _ + (Zc9 e.2 + _)
          rw [Int.add_zero, Int.add_assoc]; rfl
        · cases h
    · cases h
omit I in
theorem Zh1 {l : List (AV × AV)} {r : List (Str × Int)} (h : Zcf B l = .ok r) : sumL r = tot l := by
  unfold Zcf at h
  split at h
  · rw [Zh4 h]; show (0 : Int) + _ = _; rw [Int.zero_add]
  · cases h
theorem Zst : ∀ {l : List AV} {seen : List Str}, errW (Zev B l seen) = Zk6 l seen
  | [], _ => rfl
  | v :: r, seen => by
    dsimp only [Zox]
    unfold Zev
    cases Zbz v with
    | false => rfl
    | true =>
      rw [if_pos rfl, if_pos rfl, I.fallen]
      by_cases hm : Zaz v ∈ seen
      · rw [if_pos hm, if_pos hm]; rfl
      · rw [if_neg hm, if_neg hm]
        by_cases hb : Zaz v = S8 "bob"
        · rw [if_pos hb, if_pos (decide_eq_true hb)]; rfl
        · rw [if_neg hb, if_neg (by rw [decide_eq_false hb]; exact Bool.false_ne_true), Zst]
theorem Zxo {k : Str} {l : List AV} : errW (Zd3 B k l) = ndue k l := by
  unfold Zd3 ndue
  by_cases h : l.length ≤ 8
  · rw [if_pos h, if_pos h, Zst I]
  · rw [if_neg h, if_neg h]; rfl
omit I in
theorem Zfi : ∀ {ps : List Pc} {k : Str}, (pAt ps k).isSome = decide (k ∈ ps.map (·.name))
  | [], k => rfl
  | q :: ps, k => by
    unfold pAt
    by_cases h : q.name = k
    · rw [if_pos h]
      exact (decide_eq_true (by rw [List.map_cons, h]; exact .head _)).symm
    · rw [if_neg h, Option.isSome_map, Zfi]
      have : (k ∈ (q :: ps).map (·.name)) = (k ∈ ps.map (·.name)) := by
        rw [List.map_cons, List.mem_cons]
        exact propext ⟨fun z => z.resolve_left (fun e => h e.symm), .inr⟩
      simp only [this]
omit I in
theorem Zhv {e : String} {b : Str} (h : e ∈ Zgl) : e8 (S8 e) b = S8 e := if_neg (Zov e h)
omit I in
theorem Zr5 {b : Str} : e8 (S8 "") b = b := if_pos rfl
theorem Zls {H : Zaa} {v last : AV} {pL gL : List (AV × AV)} {nL : List AV} (hv : Nm8 H v) : Zqt (Zdl B v pL gL nL last) = due8 v pL gL nL last := by
  unfold Zdl due8
  have h4 := hv.four
  cases hnb : Zbz v with
  | false => rfl
  | true =>
  rw [if_pos rfl, if_pos rfl]
  obtain ⟨k, rfl⟩ : ∃ k, v = .str k := ⟨_, Zcs hnb⟩
  rw [hnb] at h4
  have h4 : k ∈ four8 := of_decide_eq_true h4
  have hkk : Zaz (.str k) = k := rfl
  rw [hkk, Zfi, I.names]
  by_cases hk : k = S8 "cleo"
  · subst hk
    rw [if_neg (by decide +kernel), if_pos rfl]
    unfold due2
    rw [← Zu9 I (l := pL), ← Zu9 I (l := gL), ← Zxo I (k := S8 "cleo") (l := nL)]
    cases hp : Zcf B pL with
    | error e =>
      have he := Zeo hp
      show S8 e = _
      rw [show errW (Except.error e : Except String (List (Str × Int))) = S8 e from rfl, Zhv he, Zhv he, Zhv he, Zhv he]
    | ok ps =>
    rw [show errW (Except.ok ps : Except String (List (Str × Int))) = S8 "" from rfl, Zr5]
    cases hg : Zcf B gL with
    | error e =>
      have he := Zeo hg
      show S8 e = _
      rw [show errW (Except.error e : Except String (List (Str × Int))) = S8 e from rfl, Zhv he, Zhv he, Zhv he]
    | ok gs =>
    rw [show errW (Except.ok gs : Except String (List (Str × Int))) = S8 "" from rfl, Zr5]
    show Zqt (if sumL ps ≠ sumL gs then _ else _) = _
    rw [Zh1 hp, Zh1 hg]
    by_cases ht : tot pL = tot gL
    · rw [if_neg (fun z => z ht), if_pos ht, Zr5]
      cases hn : Zd3 B (S8 "cleo") nL with
      | error e =>
        have he : e ∈ Zgl := by
          unfold Zd3 at hn
          split at hn
          · exact Zfz hn
          · cases hn; decide
        show S8 e = _
        rw [show errW (Except.error e : Except String Unit) = S8 e from rfl, Zhv he]
      | ok u =>
      rw [show errW (Except.ok u : Except String Unit) = S8 "" from rfl, Zr5]
      show Zqt (if Zbv last = true ∧ ¬ Zc9 last < B.day then _ else _) = _
      rw [I.day]
      by_cases hd : Zbv last = true ∧ ¬ Zc9 last < 2
      · rw [if_pos hd, if_pos hd]; rfl
      · rw [if_neg hd, if_neg hd]; rfl
    · rw [if_pos ht, if_neg ht]
      show S8 "Uneven" = _
      rw [Zhv (by decide), Zhv (by decide)]
  · have : k ∈ [S8 "ann", S8 "bob", S8 "dan"] := by
      simp only [four8, List.mem_cons, List.not_mem_nil, or_false] at h4 ⊢
      rcases h4 with h | h | h | h
      · exact .inl h
      · exact .inr (.inl h)
      · exact .inr (.inr h)
      · exact absurd h hk
    rw [if_pos (decide_eq_true this), if_neg hk]; rfl
end
end Mine
end
section
open PySem PySem.W PyProof.Rows PySem.Spec PySem.SeqAt PySem.Calls
namespace Mine
open L08
theorem Zez {Q : AV → Zaa → Prop} {H : Zaa} {a : Addr} {xs : List AV} {i : Int} (h : H a = some (.list xs)) (h0 : 0 ≤ i) (h1 : i < xs.length) (hl : xs.length ≤ 1000) (q : ∀ v ∈ xs, Q v H) : wsub (.ref a) (.int i) Q H := by
  have hlt : i.toNat < xs.length := by lia
  have := Zmt (Q := Q) (j := i.toNat) h (List.getElem?_eq_getElem hlt) hl (q _ (List.getElem_mem hlt))
  rw [Int.toNat_of_nonneg h0] at this
  exact this
theorem Zee {H : Zaa} {z : Addr} {xs : List AV} {o : AObj} (hz : H z = some (.list xs)) : ∀ {ts : List Addr} {l : List (AV × AV)}, pairsH H ts l → pairsH (up H z o) ts l
  | [], [], _ => trivial
  | t :: _, _ :: _, h => ⟨⟨rfl, by rw [Zab (fun e => by have := h.1.2.1; rw [e, hz] at this; cases this)]; exact h.1.2.1, h.1.2.2⟩, Zee hz h.2⟩
  | [], _ :: _, h => h.elim
  | _ :: _, [], h => h.elim
theorem Zdw {H : Zaa} {t : Addr} {v w : AV} (ht : H t = some (.tuple [v, w])) (kv : Kv v) (kw : Kv w) : ∀ {ts : List Addr} {l : List (AV × AV)}, pairsH H ts l → pairsH H (ts ++ [t]) (l ++ [(v, w)])
  | [], [], _ => ⟨⟨rfl, ht, kv, kw⟩, trivial⟩
  | _ :: _, _ :: _, h => ⟨h.1, Zdw ht kv kw h.2⟩
  | [], _ :: _, h => h.elim
  | _ :: _, [], h => h.elim
theorem Zga : ∀ k ∈ pu8, Kv (.str k) := fun k hk => Kv.str (Nat.lt_of_le_of_lt ((show ∀ k ∈ pu8, k.length ≤ 12 by decide +kernel) k hk) (by decide))
noncomputable def sz8 : List AV := [.int 1, .int 2, .int 3, .int 1, .int 2, .int 3, .int 8, .int 9, .int 0]
theorem Zuu {v : AV} (h : v ∈ sz8) : ∃ s : Int, v = .int s ∧ 0 ≤ s ∧ s ≤ 9 := by
  simp only [sz8, List.mem_cons, List.not_mem_nil, or_false] at h
  rcases h with rfl | rfl | rfl | rfl | rfl | rfl | rfl | rfl | rfl <;> exact ⟨_, rfl, by decide, by decide⟩
inductive PbI (H : Zaa) (cl s : Int) (pu z zr : Addr) (k : Nat) (V' : VV) (H' : Zaa) : Prop
  | mk (r : Int) (p5 p6 p7 : Option AV) (ts : List Addr) (L : List (AV × AV)) (hV : V' = [some (.int cl), some (.ref pu), some (.int s), some (.int r), some (.ref z), p5, p6, p7]) (hE : Ext H H') (hz : H' z = some (.list (ts.map .ref))) (hp : pairsH H' ts L) (hl : L.length = k) (hr : H' zr = some (.range 0 s)) : PbI H cl s pu z zr k V' H'
section
variable {c : Cx} (G : Gd c L08.P) {n : Nat} {md : Bool} {V : VV} {Q : AV → Zaa → Prop} {E : String → Zaa → Prop} {H : Zaa}
theorem Zva {g : Gx} {QR : AV → Zaa → Prop} {EE : String → VV → Zaa → Prop} {I : VV → Zaa → Prop} {H' : Zaa} {cl s r : Int} {pu z zr : Addr} {p5 : Option AV} {v w : AV} {ts : List Addr} {L : List (AV × AV)} {k : Nat} (hz0 : H z = none) (hI : ∀ V' H', PbI H cl s pu z zr (k + 1) V' H' → I V' H') (hE : Ext H H') (hz : H' z = some (.list (ts.map .ref))) (hp : pairsH H' ts L) (hl : L.length = k) (hk : k ≤ 100) (hr : H' zr = some (.range 0 s)) (kv : Kv v) (kw : Kv w) :
    wpSs g [.expr (.bm (.var 4) .append [.tuple [.var 6, .var 7]]), .assign (.var 3) (.bin .FloorDiv (.var 3) (.lit (.int 5)))] I QR EE [some (.int cl), some (.ref pu), some (.int s), some (.int r), some (.ref z), p5, some v, some w] H' := by
  refine w_st fun K nx => ?_
  dsimp only [Zao, x_bm, Zae]
  refine ⟨?_, ?_⟩
  · show match H' z with | some (.list _) => _ | some (.dict _ _) => _ | _ => False
    rw [hz]; exact .inl rfl
  rw [Zac, Zbg, Zac, Zae]
  show wpXs _ [.var 7] _ _ _ _
  dsimp only [Zac, Zae]
  show wpXs _ [] _ _ _ _
  dsimp only [Zaf]
  intro t ht
  have E1 := Ext.refl.new (o := .tuple [v, w]) ht
  have hz1 := E1 _ _ hz
  refine Zb5 hz1 (by rw [List.length_map, Zbj hp]; lia) (nx _ _ ?_)
  have htz : t ≠ z := fun e => by rw [e, hz] at ht; cases ht
  have hrz : zr ≠ z := fun e => by rw [e, hz] at hr; cases hr
  dsimp only [Zas, Zdq, Zaj, tv, List.length_cons, List.length_nil, Nat.reduceAdd, List.set_cons_succ, List.set_cons_zero, Zaw, Zag, Zae, List.getElem?_cons_succ, v_0, Zcj, ne_eq]
  refine ⟨by decide, by decide, hI _ _ ⟨_, _, _, _, ts ++ [t], L ++ [(v, w)], rfl, (hE.trans E1).own hz0, ?_, Zdw (by rw [Zab htz]; exact Zad) kv kw (Zee hz1 (hp.ext E1)), by rw [List.length_append, hl]; rfl, ?_⟩⟩
  · rw [Zad, List.map_append]; rfl
  · rw [Zab hrz]; exact E1 _ _ hr
include G
theorem Zg9 {cl : Int} {pu : Addr} (hpu : H pu = some (.list (txs pu8))) (q : ∀ H' z ts L, Ext H H' → H z = none → H' z = some (.list (ts.map .ref)) → pairsH H' ts L → L.length ≤ 9 → Q (.ref z) H') : CallOK c (n + 1) true "_law_pairs_by" [.int cl, .ref pu] Q E H := by
  refine G.call (F := L08.f__law_pairs_by) rfl rfl ?_
  show wpSs _ _ _ _ _ [some (.int cl), some (.ref pu), none, none, none, none, none, none] _
  refine w_st fun K nx => ?_
  dsimp only [Zaj, Zau, Zam, Zac, Zag, Zaf]
  intro z0 hz0
  have E0 := Ext.refl.new (o := .list sz8) hz0
  have hz01 : up H z0 (.list sz8) z0 = some (.list sz8) := Zad
  show wpX _ (.bin .Mod (.var 0) (.lit (.int 9))) _ _ _ (up H z0 (.list sz8))
  generalize up H z0 (.list sz8) = H0 at E0 hz01
  dsimp only [tv, List.length_cons, List.length_nil, Nat.reduceAdd, List.set_cons_succ, List.set_cons_zero, Zaw, Zag, Zae, v_0, Zbu, ne_eq]
  refine ⟨by decide, ?_⟩
  refine Zez hz01 (Zcc (by decide)) (show _ < (9 : Int) from Zcm (by decide)) (by decide) fun v hv => ?_
  obtain ⟨s, rfl, hs0, hs9⟩ := Zuu hv
  refine ⟨by decide, nx _ _ ?_⟩
  refine w_st fun K nx => ?_
  dsimp only [Zaj, tv, List.length_cons, List.length_nil, Nat.reduceAdd, List.set_cons_succ, List.set_cons_zero, Zaw, Zag, Zae, v_0, Zcj, ne_eq]
  refine ⟨by decide, by decide, nx _ _ ?_⟩
  refine w_st fun K nx => ?_
  dsimp only [Zaj, tv, List.length_cons, List.length_nil, Nat.reduceAdd, List.set_cons_succ, List.set_cons_zero, Zam, Zaf]
  intro z hz
  refine ⟨by decide, nx _ _ ?_⟩
  have E1 := E0.new (o := .list []) hz
  have hz1 : up H0 z (.list []) z = some (.list (([] : List Addr).map .ref)) := Zad
  have hzH := E0.none hz
  generalize up H0 z (.list []) = H1 at E1 hz1
  refine w_st fun K nx => ?_
  dsimp only [Zba]
  refine ⟨rfl, ?_⟩
  dsimp only [Zar, wtg, Zac, Zaf, Zae, List.getElem?_cons_succ, v_0]
  dsimp only [Ze1]
  refine ⟨⟨by lia, by lia⟩, fun zr hzr => ?_⟩
  have E2 := Ext.refl.new (o := .range 0 s) hzr
  have hr2 : up H1 zr (.range 0 s) zr = some (.range 0 s) := Zad
  generalize up H1 zr (.range 0 s) = H2 at E2 hr2
  refine Zcw (xs := (List.range (s - 0).toNat).map fun (k : Nat) => AV.int (0 + k)) (by simp only [Zan, hr2]) (PbI H cl s pu z zr) ⟨_, none, none, none, [], [], rfl, E1.trans E2, E2 _ _ hz1, trivial, rfl, hr2⟩ ?_
  rintro I hI k V' H' ⟨r, p5, p6, p7, ts, L, rfl, hE, hz', hp, hl, hr'⟩
  refine ⟨hr'.trans hr2.symm, fun hk => ?_, fun y hy => ?_⟩
  · rw [List.length_map, List.length_range] at hk
    refine nx _ _ ?_
    dsimp only [Zas, Za8, Zae]
    exact q H' z ts L hE hzH hz' hp (by lia)
  rw [List.getElem?_map, Option.map_eq_some_iff] at hy
  obtain ⟨j, hj, rfl⟩ := hy
  have hjk := List.getElem?_eq_some_iff.mp hj
  have hks : k < s.toNat := by have := hjk.1; rw [List.length_range] at this; lia
  refine ⟨show 5 < 8 by decide, ?_⟩
  generalize (0 + (j : Int)) = jj
  refine w_st fun K2 nx2 => ?_
  dsimp only [List.set_cons_succ, List.set_cons_zero, Zaj, tv, List.length_cons, List.length_nil, Nat.reduceAdd, Zau, Zaw, Zag, Zae, List.getElem?_cons_succ, v_0, Zcj, ne_eq, Zb8, Zbu]
  refine ⟨by decide, by decide, ?_⟩
  refine Zek (hE _ _ hpu) (Zcc (by decide)) (show _ < (9 : Int) from Zcm (by decide)) (by decide) fun ks hks' => ⟨by decide, nx2 _ _ ?_⟩
  refine w_st fun K3 nx3 => ?_
  dsimp only [Zaj, tv, List.length_cons, List.length_nil, Nat.reduceAdd, List.set_cons_succ, List.set_cons_zero, Zaw, Zag, Zae, List.getElem?_cons_succ, v_0, Zbu, ne_eq, Zb8]
  refine ⟨by decide, by decide, nx3 _ _ ?_⟩
  generalize (1 + r.fmod 40) = am
  refine w_st fun K4 nx4 => ?_
  suffices go4 : ∀ H3 v, Ext H' H3 → Kv v → K4 [some (.int cl), some (.ref pu), some (.int s), some (.int r), some (.ref z), some (.int jj), some v, some (.int am)] H3 by
    dsimp only [Zax]
    dsimp only [Zak, Zag, Zaw, Zae, List.getElem?_cons_succ, v_0, Zbu, ne_eq, c_eq, Zai, beq_iff_eq]
    refine ⟨by decide, ?_⟩
    by_cases h1 : r.fmod 32 = 1
    · refine Eq.mpr (if_pos (beq_iff_eq.mpr h1)) ?_
      dsimp only [Zas, Zdq, Zaj, tv, List.length_cons, List.length_nil, Nat.reduceAdd, List.set_cons_succ, List.set_cons_zero, Zau, Zaw, Zag, Zae, List.getElem?_cons_succ, v_0, Zcj, ne_eq, Zbu, Zam, Zac, Zaf]
      refine ⟨by decide, by decide, ?_⟩
      refine Zek (hE _ _ hpu) (Zcc (by decide)) (show _ < (9 : Int) from Zcm (by decide)) (by decide) fun ko hko => ?_
      intro zo hzo
      refine ⟨by decide, by decide, ?_⟩
      refine Zez Zad (Zcc (by decide)) (show _ < (3 : Int) from Zcm (by decide)) (show 3 ≤ 1000 by decide) fun v hv => ⟨by decide, go4 _ v (Ext.refl.new hzo) ?_⟩
      simp only [List.mem_cons, List.not_mem_nil, or_false] at hv
      rcases hv with rfl | rfl | rfl
      · exact Kv.str (by decide)
      · exact Kv.int
      · exact Zga ko hko
    · refine Eq.mpr (if_neg (fun e => h1 (beq_iff_eq.mp e))) ?_
      exact go4 H' _ .refl (Zga ks hks')
  intro H3 v E3 kv
  refine nx4 _ _ ?_
  have hE3 := hE.trans E3
  have hp3 := hp.ext E3
  have hz3 := E3 _ _ hz'
  have hr3 := E3 _ _ hr'
  refine w_st fun K5 nx5 => ?_
  suffices go5 : ∀ H4 w, Ext H3 H4 → Kv w → K5 [some (.int cl), some (.ref pu), some (.int s), some (.int r), some (.ref z), some (.int jj), some v, some w] H4 by
    dsimp only [Zax]
    dsimp only [Zak, Zag, Zaw, Zae, List.getElem?_cons_succ, v_0, Zbu, ne_eq, c_eq, Zai, beq_iff_eq]
    refine ⟨by decide, ?_⟩
    by_cases h1 : r.fmod 32 = 2
    · refine Eq.mpr (if_pos (beq_iff_eq.mpr h1)) ?_
      dsimp only [Zas, Zdq, Zaj, tv, List.length_cons, List.length_nil, Nat.reduceAdd, List.set_cons_succ, List.set_cons_zero, Zau, Zaw, Zag, Zae, List.getElem?_cons_succ, v_0, Zcj, ne_eq, Zbu, Zam, Zac, Zaf, Zdb, Int.reduceToNat, Int.reducePow, Zb8, Int.reduceAdd]
      refine ⟨⟨by decide, by decide, by decide +kernel⟩, ⟨by decide, by decide, by decide +kernel⟩, ⟨by decide, by decide, by decide +kernel⟩, ?_⟩
      intro zo hzo
      refine ⟨by decide, by decide, ?_⟩
      refine Zez Zad (Zcc (by decide)) (show _ < (6 : Int) from Zcm (by decide)) (show 6 ≤ 1000 by decide) fun w hw => ⟨by decide, go5 _ w (Ext.refl.new hzo) ?_⟩
      simp only [List.mem_cons, List.not_mem_nil, or_false] at hw
      rcases hw with rfl | rfl | rfl | rfl | rfl | rfl
      · exact Kv.int
      · exact Kv.bool
      · exact Kv.int
      · exact Kv.str (by decide)
      · exact Kv.int
      · exact Kv.int
    · refine Eq.mpr (if_neg (fun e => h1 (beq_iff_eq.mp e))) ?_
      dsimp only [Zas, Zax]
      dsimp only [Zak, Zag, Zaw, Zae, v_0, Zcj, ne_eq, Zbu, c_eq, Zai, beq_iff_eq]
      refine ⟨by decide, by decide, by decide, ?_⟩
      split
      · dsimp only [Zdq, Zaj, tv, List.length_cons, List.length_nil, Nat.reduceAdd, List.set_cons_succ, List.set_cons_zero, Zaw, Zag, Zdb, Int.reduceToNat, Int.reducePow, Zae, List.getElem?_cons_succ, v_0, Zb8, Zdd]
        exact ⟨⟨by decide, by decide, by decide +kernel⟩, by decide, go5 _ _ .refl Kv.int⟩
      · exact go5 _ _ .refl Kv.int
  intro H4 w E4 kw
  refine nx5 _ _ ?_
  exact Zva hzH (hI (k + 1)) (hE3.trans E4) (E4 _ _ hz3) (hp3.ext E4) hl (by lia) (E4 _ _ hr3) kv kw
end
end Mine
end
section
open PySem PySem.W PyProof.Rows PySem.Spec PySem.SeqAt PySem.Calls
namespace Mine
open L08
theorem Zvc {md : Bool} {Q : AV → Zaa → Prop} {H : Zaa} {a b : Int} (h : md = true) (q : Q (.int (if b < a then b else a)) H) : Zd8 md .min [.int a, .int b] Q H := ⟨h, q⟩
theorem Zvd {md : Bool} {Q : AV → Zaa → Prop} {H : Zaa} {a b : Int} (h : md = true) (q : Q (.int (if a < b then b else a)) H) : Zd8 md .max [.int a, .int b] Q H := ⟨h, q⟩
inductive GbI (H : Zaa) (cl t s : Int) (l pu z zr : Addr) (k : Nat) (V' : VV) (H' : Zaa) : Prop
  | mk (p6 : Option AV) (ts : List Addr) (L : List (AV × AV)) (hV : V' = [some (.int cl), some (.ref l), some (.ref pu), some (.int t), some (.int s), some (.ref z), p6]) (hE : Ext H H') (hz : H' z = some (.list (ts.map .ref))) (hp : pairsH H' ts L) (hl : L.length = k + 1) (hr : H' zr = some (.range 1 s)) : GbI H cl t s l pu z zr k V' H'
section
variable {c : Cx} (G : Gd c L08.P) {n : Nat} {md : Bool} {V : VV} {Q : AV → Zaa → Prop} {E : String → Zaa → Prop} {H : Zaa}
include G
theorem Zle {cl : Int} {l pu : Addr} {ts : List Addr} {L : List (AV × AV)} (hl : H l = some (.list (ts.map .ref))) (hp : pairsH H ts L) (hlen : L.length ≤ 9) (hpu : H pu = some (.list (txs pu8)))
    (q : ∀ H' z ts L, Ext H H' → H z = none → H' z = some (.list (ts.map .ref)) → pairsH H' ts L → L.length ≤ 100 → Q (.ref z) H') : CallOK c (n + 3) true "_law_gains_by" [.int cl, .ref l, .ref pu] Q E H := by
  refine G.call (F := L08.f__law_gains_by) rfl rfl ?_
  show wpSs _ _ _ _ _ [some (.int cl), some (.ref l), some (.ref pu), none, none, none, none] _
  have hll := Zbj hp
  refine w_st fun K nx => ?_
  dsimp only [Zaj, Zal, Zac, Zae]
  show wpXs _ [] _ _ _ _
  dsimp only [Zaf]
  refine Znt G hl hp (by omega) fun H1 E1 => ⟨show 3 < 7 by decide, nx _ _ ?_⟩
  generalize tot L = t
  show wpSs _ _ _ _ _ [some (.int cl), some (.ref l), some (.ref pu), some (.int t), none, none, none] _
  refine w_st fun K nx => ?_
  dsimp only [Zax]
  dsimp only [Zak, Zaw, Zag, Zdb, Int.reduceToNat, Int.reducePow, Zae, List.getElem?_cons_succ, v_0, c_gt, Zai, decide_eq_true_eq]
  refine ⟨⟨by decide, by decide, by decide +kernel⟩, ?_⟩
  split
  · -- the sum is too great for one amount
    dsimp only [Zas, Za8, Zbd]
    refine ⟨rfl, ?_⟩
    dsimp only [Zar, Bool.false_eq_true, ↓dreduceIte, List.cons_append, List.nil_append, Zbg, Zac, Zaf, Zau, Zag, Zae, List.getElem?_cons_succ, v_0, Zaw, Zbp]
    refine Zog (E1 _ _ hl) (by rw [List.length_map]; omega) ?_
    (dsimp only [Ze1]; rw [List.length_map])
    refine ⟨⟨by omega, by omega⟩, fun zr hzr => ?_⟩
    have E2 := E1.new (o := .range 0 (ts.length : Nat)) hzr
    have hr2 : up H1 zr (.range 0 (ts.length : Nat)) zr = some (.range 0 (ts.length : Nat)) := Zad
    generalize up H1 zr (.range 0 (ts.length : Nat)) = H2 at E2 hr2
    refine ⟨(List.range ((ts.length : Int) - 0).toNat).map fun (k : Nat) => AV.int (0 + k), by simp only [Zan, hr2], by rw [List.length_map, List.length_range]; exact Nat.le_trans (show _ ≤ 9 by omega) (by decide), fun k acc H' => Ext H2 H' ∧ ∃ us M, acc = us.map .ref ∧ pairsH H' us M ∧ M.length = k, ⟨.refl, [], [], rfl, trivial, rfl⟩, ?_⟩
    rintro k acc H' ⟨E3, us, M, rfl, hM, hk⟩
    refine ⟨E3 _ _ hr2 |>.trans hr2.symm, fun hkl a ha => ?_, fun x hx => ?_⟩
    · rw [List.length_map, List.length_range] at hkl
      exact q _ a us M ((E2.trans E3).new ha) ((E2.trans E3).none ha) Zad (hM.ext (Ext.refl.new ha)) (by omega)
    rw [List.getElem?_map, Option.map_eq_some_iff] at hx
    obtain ⟨j, hj, rfl⟩ := hx
    obtain ⟨hj1, hj2⟩ := List.getElem?_eq_some_iff.mp hj
    rw [List.getElem_range] at hj2
    rw [List.length_range] at hj1
    subst hj2
    have hkt : k < ts.length := by omega
    obtain ⟨e, he, _, htt, k1, k2⟩ := Zb3 hp (List.getElem?_eq_getElem hkt)
    have E13 := E2.trans E3
    dsimp only [Option.toList_some, Zb8, Zbu, ne_eq]
    refine ⟨by decide, ?_⟩
    refine Zek (E13 _ _ hpu) (Zcc (by decide)) (show _ < (9 : Int) from Zcm (by decide)) (by decide) fun ks hks => ?_
    rw [Int.zero_add]
    refine Zmt (j := k) (E13 _ _ hl) (by rw [List.getElem?_map, List.getElem?_eq_getElem hkt]; rfl) (by rw [List.length_map]; omega) ?_
    refine tup1 (E13 _ _ htt) ?_
    intro w hw
    have E4 := Ext.refl.new (o := .tuple [.str ks, e.2]) hw
    refine ⟨E3.trans E4, us ++ [w], M ++ [(.str ks, e.2)], ?_, Zdw Zad (Zga ks hks) k2 (hM.ext E4), by rw [List.length_append, hk]; rfl⟩
    rw [List.map_append]; rfl
  refine nx _ _ ?_
  refine w_st fun K nx => ?_
  dsimp only [Zaj, tv, List.length_cons, List.length_nil, Nat.reduceAdd, List.set_cons_succ, List.set_cons_zero, Zar, Zac, Zaf, Zae, List.getElem?_cons_succ, v_0, Zaw, Zag, Zbu, ne_eq, Zb8]
  refine ⟨by decide, Zvc rfl (Zvd rfl ⟨by decide, nx _ _ ?_⟩)⟩
  have hm0 : 0 ≤ cl.fmod 8 := Zcc (by decide)
  have hm8 : cl.fmod 8 < 8 := Zcm (by decide)
  obtain ⟨s, hs, hs1, hs8⟩ : ∃ s : Int, (if 1 < (if t < 1 + cl.fmod 8 then t else 1 + cl.fmod 8) then (if t < 1 + cl.fmod 8 then t else 1 + cl.fmod 8) else 1) = s ∧ 1 ≤ s ∧ s ≤ 8 := ⟨_, rfl, by split <;> split <;> omega, by split <;> split <;> omega⟩
  rw [hs]
  refine w_st fun K nx => ?_
  dsimp only [Zaj, tv, List.length_cons, List.length_nil, Nat.reduceAdd, List.set_cons_succ, List.set_cons_zero, Zam, Zac, Zaf, Zbg, Zaw, Zag, Zae, List.getElem?_cons_succ, v_0, Zdd, Zb8, Zau, Zcj, ne_eq, Zbu]
  refine ⟨by decide, by decide, ?_⟩
  refine Zek (E1 _ _ hpu) (Zcc (by decide)) (show _ < (9 : Int) from Zcm (by decide)) (by decide) fun k0 hk0 => ?_
  intro t0 ht0 z hz
  refine ⟨by decide, nx _ _ ?_⟩
  have E2 := (E1.new (o := .tuple [.str k0, .int (t - s + 1)]) ht0).new (o := .list [.ref t0]) hz
  have hzH := (E1.new (o := .tuple [.str k0, .int (t - s + 1)]) ht0).none hz
  have hz2 : up (up H1 t0 (.tuple [.str k0, .int (t - s + 1)])) z (.list [.ref t0]) z = some (.list ([t0].map .ref)) := Zad
  have hp2 : pairsH (up (up H1 t0 (.tuple [.str k0, .int (t - s + 1)])) z (.list [.ref t0])) [t0] [(.str k0, .int (t - s + 1))] := ⟨⟨rfl, Zgj Zad hz, Zga k0 hk0, Kv.int⟩, trivial⟩
  generalize up (up H1 t0 (.tuple [.str k0, .int (t - s + 1)])) z (.list [.ref t0]) = H2 at E2 hz2 hp2
  refine w_st fun K nx => ?_
  dsimp only [Zba]
  refine ⟨rfl, ?_⟩
  dsimp only [Zar, wtg, Zac, Zaf, Zae, List.getElem?_cons_succ, v_0, Zag]
  dsimp only [Zfh]
  refine ⟨⟨by decide, by decide, by omega, by omega⟩, fun zr hzr => ?_⟩
  have E3 := Ext.refl.new (o := .range 1 s) hzr
  have hr3 : up H2 zr (.range 1 s) zr = some (.range 1 s) := Zad
  generalize up H2 zr (.range 1 s) = H3 at E3 hr3
  refine Zcw (xs := (List.range (s - 1).toNat).map fun (k : Nat) => AV.int (1 + k)) (by simp only [Zan, hr3]) (GbI H cl t s l pu z zr) ⟨none, [t0], _, rfl, E2.trans E3, E3 _ _ hz2, hp2.ext E3, rfl, hr3⟩ ?_
  rintro I hI k V' H' ⟨p6, us, M, rfl, hE, hz', hp', hl', hr'⟩
  refine ⟨hr'.trans hr3.symm, fun hk => ?_, fun y hy => ?_⟩
  · rw [List.length_map, List.length_range] at hk
    refine nx _ _ ?_
    dsimp only [Zas, Za8, Zae]
    exact q H' z us M hE hzH hz' hp' (by omega)
  rw [List.getElem?_map, Option.map_eq_some_iff] at hy
  obtain ⟨j, hj, rfl⟩ := hy
  have hjk := (List.getElem?_eq_some_iff.mp hj).1
  rw [List.length_range] at hjk
  refine ⟨show 6 < 7 by decide, ?_⟩
  generalize (1 + (j : Int)) = jj
  dsimp only [Zas, Zao, x_bm, Zae]
  refine ⟨?_, ?_⟩
  · show match H' z with | some (.list _) => _ | some (.dict _ _) => _ | _ => False
    rw [hz']; exact .inl rfl
  dsimp only [Zac, List.set_cons_succ, List.set_cons_zero, Zaf, Zbg, Zag, Zau, Zaw, Zae, List.getElem?_cons_succ, v_0, Zcj, ne_eq, Zb8, Zbu]
  refine ⟨by decide, by decide, ?_⟩
  refine Zek (hE _ _ hpu) (Zcc (by decide)) (show _ < (9 : Int) from Zcm (by decide)) (by decide) fun ks hks => ?_
  intro w hw
  have E4 := Ext.refl.new (o := .tuple [.str ks, .int 1]) hw
  have hz4 := E4 _ _ hz'
  refine Zb5 hz4 (by rw [List.length_map, Zbj hp']; omega) ?_
  have hwz : w ≠ z := fun e => by rw [e, hz'] at hw; cases hw
  have hrz : zr ≠ z := fun e => by rw [e, hz'] at hr'; cases hr'
  refine hI _ _ _ ⟨_, us ++ [w], M ++ [(.str ks, .int 1)], rfl, (hE.trans E4).own hzH, ?_, Zdw (by rw [Zab hwz]; exact Zad) (Zga ks hks) Kv.int (Zee hz4 (hp'.ext E4)), by rw [List.length_append, hl']; rfl, ?_⟩
  · rw [Zad, List.map_append]; rfl
  · rw [Zab hrz]; exact E4 _ _ hr'
end
end Mine
end
section
open PySem PySem.W PyProof.Rows PySem.Spec PySem.SeqAt PySem.Calls
namespace Mine
open L08
noncomputable def kvB (v : AV) : Bool := match v with
  | .str s => decide (s.length ≤ 100)
  | .ref _ => false
  | _ => true
theorem Zo7 {v : AV} (h : kvB v = true) : Kv v := by
  cases v with
  | str s => exact Kv.str (Nat.lt_of_le_of_lt (of_decide_eq_true h) (by decide))
  | none => exact Kv.none
  | bool b => exact Kv.bool
  | int i => exact Kv.int
  | ref a => cases h
noncomputable def nd8B (v : AV) : Bool := kvB v && (Zbz v == !oddB v)
theorem Zoy {v : AV} (h : nd8B v = true) : Nd v := ⟨Zo7 (Bool.and_eq_true_iff.mp h).1, beq_iff_eq.mp (Bool.and_eq_true_iff.mp h).2⟩
noncomputable def Zio : List Str := [S8 "dan", S8 "ann", S8 "never", S8 "nowhere", S8 "yet", S8 "soon", S8 "later", S8 "once", S8 "next", S8 "abcdefghijkl"]
noncomputable def alt8 : List AV := [.str (S8 "bob"), .str (S8 "cleo"), .str (S8 "Yet"), .int 9, .str (S8 "ann"), .str (S8 "bob"), .str (S8 "cleo"), .str (S8 ""), .str (S8 "abcdefghijklm"), .str (S8 "a b"), .none]
theorem Zqx : ∀ k ∈ Zio, Nd (.str k) := fun k hk => Zoy ((show ∀ k ∈ Zio, nd8B (.str k) = true by decide +kernel) k hk)
theorem Zum : ∀ v ∈ alt8, Nd v := fun v hv => Zoy ((show ∀ v ∈ alt8, nd8B v = true by decide +kernel) v hv)
noncomputable def nmB (v : AV) : Bool := kvB v && (inL four8 v == Zbz v)
theorem Zeu {H : Zaa} {v : AV} (h : nmB v = true) : Nm8 H v := .kv (Zo7 (Bool.and_eq_true_iff.mp h).1) (beq_iff_eq.mp (Bool.and_eq_true_iff.mp h).2)
noncomputable def Zk7 : List AV := [.int 2, .int 3, .int 4, .int 1, .int 2, .int 3, .int 1, .int 0, .int (-1), .bool true, .none, .str (S8 "3")]
theorem Zrs : ∀ v ∈ Zk7, Kv v := fun v hv => Zo7 ((show ∀ v ∈ Zk7, kvB v = true by decide +kernel) v hv)
inductive RbI (H : Zaa) (v0 v1 v2 v3 v4 v5 v6 : Option AV) (r : Int) (z zs zr : Addr) (m : Int) (k : Nat) (V' : VV) (H' : Zaa) : Prop
  | mk (p10 p11 : Option AV) (NL : List AV) (hV : V' = [v0, v1, v2, v3, v4, v5, v6, some (.int r), some (.ref z), some (.ref zs), p10, p11, none]) (hE : Ext H H') (hz : H' z = some (.list NL)) (hn : ∀ v ∈ NL, Nd v) (hl : NL.length = k) (hr : H' zr = some (.range 0 m)) : RbI H v0 v1 v2 v3 v4 v5 v6 r z zs zr m k V' H'
section
variable {c : Cx} (G : Gd c L08.P) {n : Nat} {md : Bool} {V : VV} {Q : AV → Zaa → Prop} {E : String → Zaa → Prop} {H : Zaa}
include G
set_option tactic.hygienic true in
theorem Zn5 {sp pu : Addr} {ns : List Int} (hs : H sp = some (.script ns)) (hns : ns.length ≤ 63) (hpu : H pu = some (.list (txs pu8)))
    (q : ∀ H' r v pl gl nl ts us pL gL nL last, Ext H H' → Row8 H' r v pl gl nl ts us pL gL nL last → H r = none → H pl = none → H gl = none → H nl = none → gl ≠ pl → nl ≠ pl → nl ≠ gl → Q (.ref r) H') : CallOK c (n + 4) true "_law_row_by" [.ref sp, .ref pu] Q E H := by
  refine G.call (F := L08.f__law_row_by) rfl rfl ?_
  show wpSs _ _ _ _ _ [some (.ref sp), some (.ref pu), none, none, none, none, none, none, none, none, none, none, none] _
  have cellM : ∀ {H' : Zaa} {V : VV} {k : Nat} {j : Int} {Q' : AV → Zaa → Prop} {EE : String → Zaa → Prop}, Ext H H' → V[0]? = some (some (.ref sp)) → (∀ i, Q' (.int i) H') → wpX ⟨c, n + 3, true⟩ (.call "_law_mixed" [.call "_law_cell_at" [.var 0, .lit (.int k)], .lit (.int j)]) V Q' EE H' := by
    intro H' V k j Q' EE hE hV hq
    rw [Zal, Zac, Zal, Zac, Zae, hV]
    show wpXs _ [.lit (.int k)] _ _ _ _
    refine Eq.mpr (Zac) (Eq.mpr (Zag) (Eq.mpr (Zaf) ?_))
    refine Zi5 G rfl (Int.natCast_nonneg k) (hE _ _ hs) (by lia) ?_
    rw [Zac, Zag, Zaf]
    exact Zrh G rfl (hq _)
  refine w_st fun K nx => ?_
  dsimp only [Zaj]
  refine cellM (k := 0) .refl rfl fun cl => ⟨show 2 < 13 by decide, nx _ _ ?_⟩
  refine w_st fun K nx => ?_
  dsimp only [List.set_cons_succ, List.set_cons_zero, Zaj, tv, List.length_cons, List.length_nil, Nat.reduceAdd, Zag]
  refine ⟨by decide, nx _ _ ?_⟩
  refine w_st fun K nx => ?_
  suffices go : ∀ H1 v o4, Ext H H1 → Nm8 H1 v → K [some (.ref sp), some (.ref pu), some (.int cl), some v, o4, none, none, none, none, none, none, none, none] H1 by
    dsimp only [Zax]
    dsimp only [Zak, Zag, Zaw, Zae, List.getElem?_cons_succ, v_0, Zbu, ne_eq, c_lt, Zai, decide_eq_true_eq]
    refine ⟨by decide, ?_⟩
    split
    · refine w_st fun K2 nx2 => ?_
      dsimp only [Zaj, tv, List.length_cons, List.length_nil, Nat.reduceAdd, List.set_cons_succ, List.set_cons_zero, Zau, Zaw, Zag, Zae, List.getElem?_cons_succ, v_0, Zcj, ne_eq, Zbu, Zam, Zac, Zaf]
      intro za hza zo hzo
      refine ⟨by decide, by decide, ?_⟩
      have E1 := (Ext.refl.new (o := .list [.str (S8 "a")]) hza)
      have hza1 : up H za (.list [.str (S8 "a")]) za = some (.list (txs [S8 "a"])) := Zad
      have E2 := Ext.refl.new (o := .list [.str (S8 "Cleo"), .int 4, .str (S8 ""), .str (S8 "abcdefghijklm"), .str (S8 "till-"), .none, .ref za]) hzo
      refine Zez Zad (Zcc (by decide)) (show _ < (7 : Int) from Zcm (by decide)) (show 7 ≤ 1000 by decide) fun v hv => ⟨by decide, nx2 _ _ ?_⟩
      have hnm : Nm8 (up (up H za (.list [.str (S8 "a")])) zo (.list [.str (S8 "Cleo"), .int 4, .str (S8 ""), .str (S8 "abcdefghijklm"), .str (S8 "till-"), .none, .ref za])) v := by
        simp only [List.mem_cons, List.not_mem_nil, or_false] at hv
        rcases hv with rfl | rfl | rfl | rfl | rfl | rfl | rfl
        · exact Zeu (by decide +kernel)
        · exact Zeu (by decide +kernel)
        · exact Zeu (by decide +kernel)
        · exact Zeu (by decide +kernel)
        · exact Zeu (by decide +kernel)
        · exact Zeu (by decide +kernel)
        · exact .lst za rfl (E2 _ _ hza1)
      have E12 := E1.trans E2
      show wpSs _ _ _ _ _ _ (up (up H za (.list [.str (S8 "a")])) zo (.list [.str (S8 "Cleo"), .int 4, .str (S8 ""), .str (S8 "abcdefghijklm"), .str (S8 "till-"), .none, .ref za]))
      generalize up (up H za (.list [.str (S8 "a")])) zo (.list [.str (S8 "Cleo"), .int 4, .str (S8 ""), .str (S8 "abcdefghijklm"), .str (S8 "till-"), .none, .ref za]) = H2 at E12 hnm
      rename_i hlt
      dsimp only [Zas, Zdq, Zaj, tv, List.length_cons, List.length_nil, Nat.reduceAdd, List.set_cons_succ, List.set_cons_zero, Zau, Zaw, Zag, Zae, List.getElem?_cons_succ, v_0, Zbu, ne_eq, Zam, Zac, Zaf]
      intro z2 hz2
      refine ⟨by decide, ?_⟩
      have E3 := Ext.refl.new (o := .list [.str (S8 "ann"), .str (S8 "bob"), .str (S8 "dan"), v, v]) hz2
      refine Zez Zad (Zcc (by decide)) (show _ < (5 : Int) from of_decide_eq_true hlt) (show 5 ≤ 1000 by decide) fun w hw => ⟨by decide, go _ w _ (E12.trans E3) ?_⟩
      simp only [List.mem_cons, List.not_mem_nil, or_false] at hw
      rcases hw with rfl | rfl | rfl | rfl | rfl
      · exact Zeu (by decide +kernel)
      · exact Zeu (by decide +kernel)
      · exact Zeu (by decide +kernel)
      · exact hnm.ext E3
      · exact hnm.ext E3
    · exact go _ _ _ .refl (Zeu (by decide +kernel))
  intro H1 v o4 E1 hv
  refine nx _ _ ?_
  refine w_st fun K nx => ?_
  refine Eq.mpr (Zaj) (Eq.mpr (Zal) (Eq.mpr (Zac) ?_))
  refine cellM (k := 1) E1 rfl fun i1 => ?_
  dsimp only [Zac, Zae]
  show wpXs _ [] _ _ _ _
  dsimp only [Zaf]
  refine Zg9 G (E1 _ _ hpu) fun H2 pl ts pL E2 npl hpl hpp lp => ⟨show 5 < 13 by decide, nx _ _ ?_⟩
  refine w_st fun K nx => ?_
  have E12 := E1.trans E2
  refine Eq.mpr (Zaj) (Eq.mpr (Zal) (Eq.mpr (Zac) ?_))
  refine cellM (k := 2) E12 rfl fun i2 => ?_
  dsimp only [Zac, Zae]
  show wpXs _ [] _ _ _ _
  dsimp only [Zaf]
  refine Zg9 G (E12 _ _ hpu) fun H3 gl us gL E3 ngl hgl hgg lg => ⟨show 6 < 13 by decide, nx _ _ ?_⟩
  have E13 := E12.trans E3
  refine w_st fun K nx => ?_
  suffices go : ∀ H4 gl us gL, Ext H3 H4 → H gl = none → gl ≠ pl → H4 gl = some (.list (us.map .ref)) → pairsH H4 us gL → gL.length ≤ 100 → K [some (.ref sp), some (.ref pu), some (.int cl), some v, o4, some (.ref pl), some (.ref gl), none, none, none, none, none, none] H4 by
    dsimp only [Zax]
    dsimp only [List.set_cons_succ, List.set_cons_zero, Zak, Zag, Zaw, Zae, List.getElem?_cons_succ, v_0, Zcj, ne_eq, Zbu, c_lt, Zai, decide_eq_true_eq]
    refine ⟨by decide, by decide, ?_⟩
    split
    · dsimp only [Zas, Zdq, Zaj, tv, List.length_cons, List.length_nil, Nat.reduceAdd, List.set_cons_succ, List.set_cons_zero, Zal, Zac, Zaf, Zae, List.getElem?_cons_succ, v_0, Zaw, Zag, Zcj, ne_eq]
      refine ⟨by decide, ?_⟩
      exact Zle G (E3 _ _ hpl) (hpp.ext E3) lp (E13 _ _ hpu) fun H4 z ts' L' E4 nz hz hp hl => ⟨by decide, go H4 z ts' L' E4 (E13.none nz) (fun e => by rw [e, E3 _ _ hpl] at nz; cases nz) hz hp hl⟩
    · exact go H3 gl us gL .refl (E12.none ngl) (fun e => by rw [e, hpl] at ngl; cases ngl) hgl hgg (by lia)
  clear hgl hgg lg ngl gl us gL
  intro H4 gl us gL E4 ngl dgp hgl hgg lg
  have E14 := E13.trans E4
  refine nx _ _ ?_
  refine w_st fun K nx => ?_
  dsimp only [Zaj]
  refine cellM (k := 3) E14 rfl fun r => ⟨show 7 < 13 by decide, nx _ _ ?_⟩
  refine w_st fun K nx => ?_
  dsimp only [List.set_cons_succ, List.set_cons_zero, Zaj, tv, List.length_cons, List.length_nil, Nat.reduceAdd, Zam, Zaf]
  intro nl hnl
  refine ⟨by decide, nx _ _ ?_⟩
  refine w_st fun K nx => ?_
  dsimp only [Zaj, Zam, Zac, Zag, Zaf]
  intro zs hzs
  refine ⟨show 9 < 13 by decide, nx _ _ ?_⟩
  have E5 := (Ext.refl.new (o := .list []) hnl).new (o := .list (txs Zio)) hzs
  have hnl5 : up (up H4 nl (.list [])) zs (.list (txs Zio)) nl = some (.list []) := Zgj Zad hzs
  have hzs5 : up (up H4 nl (.list [])) zs (.list (txs Zio)) zs = some (.list (txs Zio)) := Zad
  have nnl := E14.none hnl
  have dnp : nl ≠ pl := fun e => by rw [e, E4 _ _ (E3 _ _ hpl)] at hnl; cases hnl
  have dng : nl ≠ gl := fun e => by rw [e, hgl] at hnl; cases hnl
  show wpSs _ _ _ _ _ _ (up (up H4 nl (.list [])) zs (.list (txs Zio)))
  generalize up (up H4 nl (.list [])) zs (.list (txs Zio)) = H5 at E5 hnl5 hzs5
  refine w_st fun K nx => ?_
  dsimp only [Zba]
  refine ⟨rfl, ?_⟩
  dsimp only [Zar, List.set_cons_succ, List.set_cons_zero, wtg, Zac, Zaf, Zaw, Zag, Zae, List.getElem?_cons_succ, v_0, Zbu, ne_eq]
  refine ⟨by decide, by decide, ?_⟩
  have hm0 : 0 ≤ (r.fmod 11).fmod 10 := Zcc (by decide)
  have hm1 : (r.fmod 11).fmod 10 < 10 := Zcm (by decide)
  generalize (r.fmod 11).fmod 10 = m at hm0 hm1
  dsimp only [Ze1]
  refine ⟨⟨by lia, by lia⟩, fun zr hzr => ?_⟩
  have E6 := Ext.refl.new (o := .range 0 m) hzr
  have hr6 : up H5 zr (.range 0 m) zr = some (.range 0 m) := Zad
  generalize up H5 zr (.range 0 m) = H6 at E6 hr6
  have E46 := E5.trans E6
  have hzs6 := E6 _ _ hzs5
  have nzs : zs ≠ nl := fun e => by rw [e, hnl5] at hzs5; cases hzs5
  refine Zcw (xs := (List.range (m - 0).toNat).map fun (k : Nat) => AV.int (0 + k)) (by simp only [Zan, hr6]) (fun k V' H' => RbI H4 (some (.ref sp)) (some (.ref pu)) (some (.int cl)) (some v) o4 (some (.ref pl)) (some (.ref gl)) r nl zs zr m k V' H' ∧ H' zs = some (.list (txs Zio))) ⟨⟨none, none, [], rfl, E46, E6 _ _ hnl5, fun _ h => (by cases h), rfl, hr6⟩, hzs6⟩ ?_
  rintro I hI k V' H' ⟨⟨p10, p11, NL, rfl, hE, hz', hn', hl', hr'⟩, hzs'⟩
  refine ⟨hr'.trans hr6.symm, fun hk => ?_, fun y hy => ?_⟩
  · rw [List.length_map, List.length_range] at hk
    refine nx _ _ ?_
    have E17 := E14.trans hE
    refine w_st fun K nx => ?_
    dsimp only [Zaj, Zau, Zam]
    dsimp only [tv, List.length_cons, List.length_nil, Nat.reduceAdd, List.set_cons_succ, List.set_cons_zero, Zaw, Zag, Zal, Zac, Zaf, Zae, v_0, Zbm, Int.reduceNeg]
    intro zl hzl
    have E8 := Ext.refl.new (o := .list Zk7) hzl
    have hzl8 : up H' zl (.list Zk7) zl = some (.list Zk7) := Zad
    show CallOK _ _ _ _ _ _ _ (up H' zl (.list Zk7))
    generalize up H' zl (.list Zk7) = H8 at E8 hzl8
    have E18 := E17.trans E8
    refine Zi5 G rfl (by decide) (E18 _ _ hs) (by lia) ?_
    dsimp only [Int.reduceToNat, Zcj, ne_eq, Zbu]
    refine ⟨by decide, by decide, ?_⟩
    refine Zez hzl8 (Zcc (by decide)) (show _ < (12 : Int) from Zcm (by decide)) (by decide) fun lv hlv => ⟨by decide, nx _ _ ?_⟩
    have klv := Zrs lv hlv
    refine w_st fun K nx => ?_
    suffices go : ∀ lv, Kv lv → K [some (.ref sp), some (.ref pu), some (.int cl), some v, o4, some (.ref pl), some (.ref gl), some (.int r), some (.ref nl), some (.ref zs), p10, p11, some lv] H8 by
      dsimp only [Zax]
      dsimp only [Zak, Zag, Zaw, Zal, Zac, Zaf, Zae, v_0]
      refine Zi5 G rfl (by decide) (E18 _ _ hs) (by lia) ?_
      dsimp only [Int.reduceToNat, Zbu, ne_eq, c_eq, Zai, beq_iff_eq]
      refine ⟨by decide, ?_⟩
      split
      · dsimp only [Zas, Zdq, Zaj, tv, List.length_cons, List.length_nil, Nat.reduceAdd, List.set_cons_succ, List.set_cons_zero, Zaw, Zag, Zdb, Int.reduceToNat, Int.reducePow, Zal, Zac, Zaf, Zae, v_0]
        refine Zi5 G rfl (by decide) (E18 _ _ hs) (by lia) ?_
        dsimp only [Int.reduceToNat, Zcj, ne_eq, Zbu, Zb8]
        refine ⟨by decide, ⟨by decide, by decide, by decide +kernel⟩, by decide +kernel, by decide, go _ Kv.int⟩
      · exact go _ klv
    clear hlv klv lv
    intro lv klv
    refine nx _ _ ?_
    dsimp only [Zas, Za8, Zam]
    dsimp only [Zac, Zaf, Zae, List.getElem?_cons_succ, v_0]
    intro rr hrr
    have E9 := Ext.refl.new (o := .list [v, .ref pl, .ref gl, .ref nl, lv]) hrr
    have E49 := (hE.trans E8).trans E9
    have E39 := E4.trans E49
    refine q _ rr v pl gl nl ts us pL gL NL lv (E18.trans E9) ⟨Zad, hv.ext (((E2.trans E3).trans E39)), (E3.trans E39) _ _ hpl, hpp.ext (E3.trans E39), E49 _ _ hgl, hgg.ext E49, E9 _ _ (E8 _ _ hz'), hn', klv, by lia, lg, by lia⟩ (E18.none hrr) (E1.none npl) ngl nnl dgp dnp dng
  rw [List.getElem?_map, Option.map_eq_some_iff] at hy
  obtain ⟨j, hj, rfl⟩ := hy
  have hjk := (List.getElem?_eq_some_iff.mp hj).1
  rw [List.length_range] at hjk
  refine ⟨show 10 < 13 by decide, ?_⟩
  generalize (0 + (j : Int)) = jj
  refine w_st fun K2 nx2 => ?_
  dsimp only [List.set_cons_succ, List.set_cons_zero, Zaj, tv, List.length_cons, List.length_nil, Nat.reduceAdd, Zau, Zaw, Zag, Zae, List.getElem?_cons_succ, v_0, Zcj, ne_eq, Zb8, Zbu]
  refine ⟨by decide, by decide, ?_⟩
  refine Zek hzs' (Zcc (by decide)) (show _ < (10 : Int) from Zcm (by decide)) (by decide) fun ks hks => ⟨by decide, nx2 _ _ ?_⟩
  refine w_st fun K3 nx3 => ?_
  suffices go : ∀ H7 w, Ext H' H7 → Nd w → K3 [some (.ref sp), some (.ref pu), some (.int cl), some v, o4, some (.ref pl), some (.ref gl), some (.int r), some (.ref nl), some (.ref zs), some (.int jj), some w, none] H7 by
    dsimp only [Zax]
    dsimp only [Zak, Zaw, Zae, List.getElem?_cons_succ, v_0, Zag, Zdd, Zcj, ne_eq, Zbu, c_eq, Zai, beq_iff_eq]
    refine ⟨by decide, by decide, ?_⟩
    split
    · dsimp only [Zas, Zaj, Zau, Zam]
      dsimp only [tv, List.length_cons, List.length_nil, Nat.reduceAdd, List.set_cons_succ, List.set_cons_zero, Zaw, Zag, Zae, List.getElem?_cons_succ, v_0, Zcj, ne_eq, Zbu, Zac, Zaf]
      intro zo hzo
      refine ⟨by decide, by decide, ?_⟩
      exact Zez Zad (Zcc (by decide)) (show _ < (11 : Int) from Zcm (by decide)) (show 11 ≤ 1000 by decide) fun w hw => ⟨by decide, go _ w (Ext.refl.new hzo) (Zum w hw)⟩
    · exact go _ _ .refl (Zqx ks hks)
  intro H7 w E7 hw
  refine nx3 _ _ ?_
  dsimp only [Zas, Zao, x_bm, Zae]
  have hz7 := E7 _ _ hz'
  refine ⟨?_, ?_⟩
  · show match H7 nl with | some (.list _) => _ | some (.dict _ _) => _ | _ => False
    rw [hz7]; exact .inl rfl
  dsimp only [Zac, Zae]
  show wpXs _ [] _ _ _ _
  dsimp only [Zaf]
  refine Zb5 hz7 (by lia) ?_
  have hrz : zr ≠ nl := fun e => by rw [e, hz'] at hr'; cases hr'
  refine hI _ _ _ ⟨⟨_, _, NL ++ [w], rfl, (hE.trans E7).own hnl, Zad, fun x hx => ?_, by rw [List.length_append, hl']; rfl, by rw [Zab hrz]; exact E7 _ _ hr'⟩, by rw [Zab nzs]; exact E7 _ _ hzs'⟩
  rcases List.mem_append.mp hx with h | h
  · exact hn' x h
  · rw [List.mem_singleton.mp h]; exact hw
end
end Mine
end
section
open PySem PySem.W PyProof.Rows PySem.Spec PySem.SeqAt PySem.Calls
namespace Mine
open L08
noncomputable def one8 : List (AV × AV) := [(.str (S8 "b"), .int 1)]
noncomputable def two8 : List (AV × AV) := [(.str (S8 "e"), .int 1)]
noncomputable def m30 : Int := 1000000000000000000000000000000
noncomputable def tq8 (B : Bk) (k : Str) : Except String Bk := Zdl B (.str k) one8 two8 [] (.int 9)
noncomputable def tl8 (B : Bk) (k : Str) : Bk := Zkm B (tq8 B k)
noncomputable def pre8 (B : Bk) (p : Str) : Bk := if p = S8 "dan" then tl8 (tl8 (tl8 B (S8 "ann")) (S8 "bob")) (S8 "dan") else B
noncomputable def op8 (B : Bk) (p : Str) : Bk := Zkm B (Zm2 B (.str p))
noncomputable def pt8 (B : Bk) (p : Str) : Bk := Zkm B (putQ B (.str p) (.int m30))
noncomputable def st8 (B : Bk) (p : Str) : Bk := pt8 (pt8 (op8 (pre8 B p) p) p) p
noncomputable def b8 (k : Nat) : Bk := (pu8.take k).foldl st8 ⟨0, [], [], []⟩
theorem b8_s {k : Nat} {p : Str} (h : pu8[k]? = some p) : b8 (k + 1) = st8 (b8 k) p := by
  unfold b8
  rw [Zbw h, List.foldl_append]; rfl
noncomputable def okE (r : Except String Bk) : Bool := match r with
  | .ok _ => true
  | .error _ => false
theorem Zjp {B : Bk} {r : Except String Bk} (h : okE r = true) : r = .ok (Zkm B r) := by
  cases r with
  | ok B' => rfl
  | error e => cases h
noncomputable def szB (B : Bk) : Bool := decide (B.free.length ≤ 1000) && decide (B.aside.length ≤ 1000)
theorem Znw {B : Bk} (h : szB B = true) : B.Sz := ⟨Nat.le_trans (of_decide_eq_true (Bool.and_eq_true_iff.mp h).1) (by decide), Nat.le_trans (of_decide_eq_true (Bool.and_eq_true_iff.mp h).2) (by decide)⟩
noncomputable def ck1 (B : Bk) (p : Str) : Bool := szB (pre8 B p) && okE (Zm2 (pre8 B p) (.str p)) && szB (op8 (pre8 B p) p) && okE (putQ (op8 (pre8 B p) p) (.str p) (.int m30)) && szB (pt8 (op8 (pre8 B p) p) p) && okE (putQ (pt8 (op8 (pre8 B p) p) p) (.str p) (.int m30))
theorem Zuh : ∀ k : Fin 9, ck1 (b8 k.val) (pu8.getD k.val default) = true := by decide +kernel
noncomputable def ck2 (B : Bk) : Bool := okB B && okE (tq8 B (S8 "ann")) && okB (tl8 B (S8 "ann")) && okE (tq8 (tl8 B (S8 "ann")) (S8 "bob")) && okB (tl8 (tl8 B (S8 "ann")) (S8 "bob")) && okE (tq8 (tl8 (tl8 B (S8 "ann")) (S8 "bob")) (S8 "dan"))
theorem Zxz : ck2 (b8 8) = true := by decide +kernel
noncomputable def Boff : Bk := ⟨0, (b8 9).free, (b8 9).aside, [⟨S8 "ann", [(S8 "b", 1)], [(S8 "e", 1)], [], 9, .opn, []⟩, ⟨S8 "bob", [(S8 "b", 1)], [(S8 "e", 1)], [], 9, .fln, []⟩, ⟨S8 "dan", [(S8 "b", 1)], [(S8 "e", 1)], [], 9, .opn, []⟩]⟩
noncomputable def fr8 : List (Str × Int) := [(S8 "till", 2 * m30), (S8 "b", 2 * m30 - 1), (S8 "mill", 2 * m30), (S8 "quay", 2 * m30), (S8 "vjxzwkpgfhyd", 2 * m30), (S8 "e", 2 * m30 + 1), (S8 "ff", 2 * m30), (S8 "never", 2 * m30), (S8 "dan", 2 * m30)]
noncomputable def as8 : List (Str × Int) := pu8.map fun k => (k, 0)
noncomputable def Bf8 : Bk := ⟨2, fr8, as8, [⟨S8 "ann", [(S8 "b", 1)], [(S8 "e", 1)], [], 9, .opn, []⟩, ⟨S8 "bob", [(S8 "b", 1)], [(S8 "e", 1)], [], 9, .fln, []⟩, ⟨S8 "dan", [(S8 "b", 1)], [(S8 "e", 1)], [], 9, .dn, []⟩]⟩
theorem Zwx : offQ (b8 9) (.str (S8 "bob")) = .ok (Boff, [S8 "bob"]) := by kernel_rfl
theorem o_9 : okB (b8 9) = true := by decide +kernel
theorem Zxn : okB Boff = true := by decide +kernel
noncomputable def Bas : Bk := Zkm Boff (Zfq Boff (.str (S8 "b")) (.str (S8 "dan")))
theorem x_as : okE (Zfq Boff (.str (S8 "b")) (.str (S8 "dan"))) = true := by decide +kernel
theorem o_as : okB Bas = true := by decide +kernel
theorem n_as : (Bas.pacts.map (·.name)).Nodup := by decide +kernel
theorem f_as : Zcv Bas.pacts = [S8 "dan"] := by decide +kernel
theorem d_as : ndB Bas (S8 "dan") = [] := by decide +kernel
theorem grt1 {full done g : List Str} {nd : Str → List Str} {x : Str} (h : Grt full nd done g) (hf : full = [x]) (hn : ∀ o ∈ nd x, o ∈ done) : g = [x] := by
  obtain ⟨s, _, t⟩ := h
  subst hf
  have hm : x ∈ g := t (fun y => y = x) (fun y hy => by subst hy; exact ⟨List.mem_singleton.mpr rfl, fun o ho => .inr (hn o ho)⟩) _ rfl
  match g, s, hm with
  | [], _, hm => cases hm
  | [y], _, hm => rw [List.mem_singleton.mp hm]
  | _ :: _ :: _, s, _ => have := s.length_le; simp at this
noncomputable def Bse : Bk := Zcq [S8 "dan"] Bas
theorem o_se : okB Bse = true := by decide +kernel
theorem Zuo : Zoe Bse (.int 2) = .ok (Bf8, []) := by kernel_rfl
theorem o_f8 : okB Bf8 = true := by decide +kernel
theorem is8 : Is8 Bf8 := by
  refine ⟨by decide +kernel, by decide +kernel, fun k => ?_, rfl⟩
  unfold Zcn
  by_cases h1 : S8 "ann" = k
  · subst h1; decide +kernel
  by_cases h2 : S8 "bob" = k
  · subst h2; decide +kernel
  by_cases h3 : S8 "dan" = k
  · subst h3; decide +kernel
  rw [decide_eq_false (fun e => h2 e.symm)]
  have : pAt Bf8.pacts k = none := by
    have := Zfi (ps := Bf8.pacts) (k := k)
    rw [show Bf8.pacts.map (·.name) = [S8 "ann", S8 "bob", S8 "dan"] from rfl] at this
    cases hp : pAt Bf8.pacts k with
    | none => rfl
    | some e =>
      rw [hp] at this
      have := of_decide_eq_true this.symm
      simp only [List.mem_cons, List.not_mem_nil, or_false] at this
      rcases this with h | h | h
      · exact absurd h.symm h1
      · exact absurd h.symm h2
      · exact absurd h.symm h3
  rw [this]
end Mine
end
section
open PySem PySem.W PyProof.Rows PySem.Spec PySem.SeqAt PySem.Calls
namespace Mine
open L08
theorem Zay {g : Gx} {V : VV} {v : AV} : Pure g V (.lit v) v := fun _ _ _ h => h
theorem Zgp {g : Gx} {V : VV} {i : Nat} {v : AV} (h : V[i]? = some (some v)) : Pure g V (.var i) v := fun Q E H q => by (dsimp only [Zae]; rw [h]); exact q
theorem Zq4 {B : Bk} : pre8 B (S8 "dan") = tl8 (tl8 (tl8 B (S8 "ann")) (S8 "bob")) (S8 "dan") := if_pos rfl
theorem k8 : ∀ {s : String}, (S8 s).length < 2 ^ 62 → Kv (.str (S8 s)) := fun h => Kv.str h
section
variable {c : Cx} (G : Gd c L08.P) {n : Nat} {V : VV} {Q : AV → Zaa → Prop} {E : String → Zaa → Prop} {H : Zaa} {b : Addr} {B : Bk}
include G
theorem Zs5 {i : Nat} {en ep eg ee el : X} {v last : AV} {pL gL : List (AV × AV)} {nL : List AV} (hb : H b = some (.book B)) (ok : BkOK B) (hV : V[i]? = some (some (.ref b))) (hn : Pure ⟨c, n + 4, true⟩ V en v) (hp : Lays ⟨c, n + 4, true⟩ V ep pL H) (hg : Lays ⟨c, n + 4, true⟩ V eg gL H) (he : Zqk ⟨c, n + 4, true⟩ V ee nL H) (hl : Pure ⟨c, n + 4, true⟩ V el last)
    (kv : Kv v) (kl : Kv last) (kn : ∀ v ∈ nL, Kv v) (l1 : pL.length ≤ 1000) (l2 : gL.length ≤ 1000) (l3 : nL.length ≤ 1000) (q : ∀ H', Ext H H' → Ends (Zdl B v pL gL nL last) (fun B' => Q .none (up H' b (.book B'))) (fun cl => E cl H')) : wpX ⟨c, n + 4, true⟩ (.meth (.var i) "tell" [en, ep, eg, ee, el]) V Q E H := by
  have hM : c.P.meths = BK.meths := by rw [G.hP]; rfl
  refine Zbf hM (by decide) (by decide) hb hV ?_
  rw [Zac]
  refine hn _ _ _ ?_
  rw [Zac]
  refine hp _ _ _ .refl fun H1 z1 ts hE1 hz1 hp1 => ?_
  rw [Zac]
  refine hg _ _ _ hE1 fun H2 z2 us hE2 hz2 hp2 => ?_
  rw [Zac]
  refine he _ _ _ (hE1.trans hE2) fun H3 z3 hE3 hz3 => ?_
  rw [Zac]
  refine hl _ _ _ ?_
  rw [Zaf]
  have hE := (hE1.trans hE2).trans hE3
  exact Zsf G U8 rfl rfl rfl rfl (by rw [G.hP]; rfl) (hE _ _ hb) ok kv kl (hE3 _ _ (hE2 _ _ hz1)) ((hp1.ext hE2).ext hE3) (hE3 _ _ hz2) (hp2.ext hE3) hz3 kn l1 l2 l3 (q H3 hE)
theorem Zus {K : VV → Zaa → Prop} {QR : AV → Zaa → Prop} {EE : String → VV → Zaa → Prop} {v0 v2 v3 v4 v5 v6 v7 v8 : Option AV} {B0 : Bk} (ck : ck2 B0 = true) (hb : H b = some (.book B0)) (q : ∀ H' v4, Kb b H H' → H' b = some (.book (pre8 B0 (S8 "dan"))) → K [v0, some (.ref b), v2, v3, v4, v5, v6, v7, v8] H') :
    wpS ⟨c, n + 5, true⟩ (.for (.var 4) (.list [(.lit (.str (Str.ofString "ann"))), (.lit (.str (Str.ofString "bob"))), (.lit (.str (Str.ofString "dan")))]) [.expr (.meth (.var 1) "tell" [(.var 4), (.list [(.tuple [(.lit (.str (Str.ofString "b"))), (.lit (.int 1))])]), (.list [(.tuple [(.lit (.str (Str.ofString "e"))), (.lit (.int 1))])]), (.list []), (.lit (.int 9))])]) K QR EE [v0, some (.ref b), v2, v3, v4, v5, v6, v7, v8] H := by
  dsimp only [Zba]
  refine ⟨rfl, ?_⟩
  dsimp only [Zam, wtg, Zac, Zaf, Zag]
  intro z hz
  have hbz : z ≠ b := fun e => by rw [e, hb] at hz; cases hz
  unfold ck2 at ck
  simp only [Bool.and_eq_true] at ck
  obtain ⟨⟨⟨⟨⟨c1, c2⟩, c3⟩, c4⟩, c5⟩, c6⟩ := ck
  refine Zcw (xs := txs [S8 "ann", S8 "bob", S8 "dan"]) (by simp only [Zan]; rw [Zad]; rfl) (fun k V' H' => (∃ p, V' = [v0, some (.ref b), v2, v3, p, v5, v6, v7, v8]) ∧ H' z = some (.list (txs [S8 "ann", S8 "bob", S8 "dan"])) ∧ Kb b H H' ∧ H' b = some (.book (([S8 "ann", S8 "bob", S8 "dan"].take k).foldl tl8 B0))) ⟨⟨_, rfl⟩, Zad, Kb.ext (Ext.refl.new hz), by rw [Zab hbz.symm, List.take_zero]; exact hb⟩ ?_
  rintro I hI k V' H' ⟨⟨p, rfl⟩, hz', hk', hb'⟩
  refine ⟨by show H' z = _; rw [hz', Zad]; rfl, fun hk => ?_, fun y hy => ?_⟩
  · subst hk
    exact q _ _ hk' (by rw [hb', Zq4]; rfl)
  obtain ⟨s, rfl, hs⟩ := Zeb hy
  refine ⟨show 4 < 9 by decide, ?_⟩
  show wpSs _ _ _ _ _ [v0, some (.ref b), v2, v3, some (.str s), v5, v6, v7, v8] _
  dsimp only [Zas, Zao]
  have key : ∀ {Bk : Bk}, okB Bk = true → okE (tq8 Bk s) = true → s.length < 2 ^ 62 → (([S8 "ann", S8 "bob", S8 "dan"].take k).foldl tl8 B0) = Bk → wpX ⟨c, n + 5, true⟩ (.meth (.var 1) "tell" [(.var 4), (.list [(.tuple [(.lit (.str (Str.ofString "b"))), (.lit (.int 1))])]), (.list [(.tuple [(.lit (.str (Str.ofString "e"))), (.lit (.int 1))])]), (.list []), (.lit (.int 9))]) [v0, some (.ref b), v2, v3, some (.str s), v5, v6, v7, v8] (fun _ H => I (k + 1) [v0, some (.ref b), v2, v3, some (.str s), v5, v6, v7, v8] H) (fun cl H => EE cl [v0, some (.ref b), v2, v3, some (.str s), v5, v6, v7, v8] H) H' := by
    intro Bk o1 o2 hl e
    rw [e] at hb'
    refine Zs5 G (n := n + 1) hb' (Zgc o1) rfl (Zgp rfl) (lay1 Zay Zay (k8 (by decide)) .int) (lay1 Zay Zay (k8 (by decide)) .int) Zrr Zay (Kv.str hl) .int (fun v hv => by cases hv) (by decide) (by decide) (by decide) fun H1 E1 => ?_
    show Ends (tq8 Bk s) _ _
    rw [Zjp (B := Bk) o2]
    refine hI _ _ _ ⟨⟨_, rfl⟩, by rw [Zab hbz]; exact E1 _ _ hz', (hk'.trans (.ext E1)).trans .up, ?_⟩
    rw [Zad, Zbw hs, List.foldl_append, e]; rfl
  rcases k with _ | _ | _ | k
  · cases hs; exact key c1 c2 (by decide) rfl
  · cases hs; exact key c3 c4 (by decide) rfl
  · cases hs; exact key c5 c6 (by decide) rfl
  · cases hs
theorem Zxq {K : VV → Zaa → Prop} {QR : AV → Zaa → Prop} {EE : String → VV → Zaa → Prop} {v0 v3 v4 v5 v6 v7 v8 : Option AV} {pu : Addr} (hb : H b = some (.book (b8 0))) (hpu : H pu = some (.list (txs pu8))) (q : ∀ H' v3 v4, Kb b H H' → H' b = some (.book (b8 9)) → K [v0, some (.ref b), some (.ref pu), v3, v4, v5, v6, v7, v8] H') :
    wpS ⟨c, n + 5, true⟩ (.for (.var 3) (.var 2) [.ite (.cmp .Eq (.var 3) (.lit (.str (Str.ofString "dan")))) [.for (.var 4) (.list [(.lit (.str (Str.ofString "ann"))), (.lit (.str (Str.ofString "bob"))), (.lit (.str (Str.ofString "dan")))]) [.expr (.meth (.var 1) "tell" [(.var 4), (.list [(.tuple [(.lit (.str (Str.ofString "b"))), (.lit (.int 1))])]), (.list [(.tuple [(.lit (.str (Str.ofString "e"))), (.lit (.int 1))])]), (.list []), (.lit (.int 9))])]] [],
    .expr (.meth (.var 1) "open_purse" [(.var 3)]),
    .expr (.meth (.var 1) "put" [(.var 3), (.bin .Pow (.lit (.int 10)) (.lit (.int 30)))]),
    .expr (.meth (.var 1) "put" [(.var 3), (.bin .Pow (.lit (.int 10)) (.lit (.int 30)))])]) K QR EE [v0, some (.ref b), some (.ref pu), v3, v4, v5, v6, v7, v8] H := by
  have hM : c.P.meths = BK.meths := by rw [G.hP]; rfl
  have hbp : pu ≠ b := fun e => by rw [e, hb] at hpu; cases hpu
  dsimp only [Zba]
  refine ⟨rfl, ?_⟩
  dsimp only [Zae]
  show WFor _ _ (.ref pu) _ _
  refine Zcw (xs := txs pu8) (by simp only [Zan, hpu]) (fun k V' H' => (∃ p3 p4, V' = [v0, some (.ref b), some (.ref pu), p3, p4, v5, v6, v7, v8]) ∧ Kb b H H' ∧ H' b = some (.book (b8 k))) ⟨⟨_, _, rfl⟩, .refl, hb⟩ ?_
  rintro I hI k V' H' ⟨⟨p3, p4, rfl⟩, hk', hb'⟩
  refine ⟨by show H' pu = H pu; rw [hk' _ _ hbp hpu, hpu], fun hk => ?_, fun y hy => ?_⟩
  · subst hk
    exact q _ _ _ hk' hb'
  obtain ⟨s, rfl, hs⟩ := Zeb hy
  have hsl : s ∈ pu8 := List.mem_of_getElem? hs
  have ks := Zga s hsl
  have hk9 : k < 9 := (List.getElem?_eq_some_iff.mp hs).1
  have ck := Zuh ⟨k, hk9⟩
  have hgd : pu8.getD k default = s := by rw [List.getD_eq_getElem?_getD, hs]; rfl
  rw [show (⟨k, hk9⟩ : Fin 9).val = k from rfl, hgd] at ck
  unfold ck1 at ck
  simp only [Bool.and_eq_true] at ck
  obtain ⟨⟨⟨⟨⟨c1, c2⟩, c3⟩, c4⟩, c5⟩, c6⟩ := ck
  refine ⟨show 3 < 9 by decide, ?_⟩
  refine w_st fun K2 nx2 => ?_
  show wpS _ _ _ _ _ [v0, some (.ref b), some (.ref pu), some (.str s), p4, v5, v6, v7, v8] _
  suffices go : ∀ H1 p4, Kb b H' H1 → H1 b = some (.book (pre8 (b8 k) s)) → K2 [v0, some (.ref b), some (.ref pu), some (.str s), p4, v5, v6, v7, v8] H1 by
    dsimp only [Zax, Zak, Zae]
    show wpX _ (.lit (.str (S8 "dan"))) _ _ _ _
    dsimp only [Zag]
    show wcmp .Eq (.str s) (.str (S8 "dan")) _ _
    dsimp only [Zci, Zai]
    by_cases hd : s = S8 "dan"
    · (refine Eq.mpr (if_pos (beq_iff_eq.mpr hd)) ?_; dsimp only [Zas])
      subst hd
      have hk8 : k = 8 := by
        have : ∀ k : Fin 9, pu8[k.val]? = some (S8 "dan") → k.val = 8 := by decide +kernel
        exact this ⟨k, hk9⟩ hs
      subst hk8
      exact Zus G Zxz hb' fun H1 p4 h1 h2 => go H1 p4 h1 h2
    · refine Eq.mpr (if_neg (fun e => hd (beq_iff_eq.mp e))) ?_
      exact go H' p4 .refl (by rw [hb']; unfold pre8; rw [if_neg hd])
  intro H1 p4 k1 hb1
  refine nx2 _ _ ?_
  refine w_st fun K3 nx3 => ?_
  dsimp only [Zao]
  refine Zbf hM (by decide) (by decide) hb1 rfl ?_
  dsimp only [Zac, Zae]
  show wpXs _ [] _ _ _ _
  dsimp only [Zaf]
  refine Zve G U8.a hb1 ks.kn (Znw c1) ?_
  rw [Zjp (B := pre8 (b8 k) s) c2]
  refine nx3 _ _ ?_
  refine w_st fun K4 nx4 => ?_
  dsimp only [Zao]
  refine Zbf hM (by decide) (by decide) Zad rfl ?_
  refine Eq.mpr (Zac) (Eq.mpr (Zae) ?_)
  show wpXs _ [.bin .Pow (.lit (.int 10)) (.lit (.int 30))] _ _ _ _
  dsimp only [Zac, Zaw, Zag, Zdb]
  refine ⟨⟨by decide, by decide, by decide +kernel⟩, ?_⟩
  (dsimp only [Zaf]; rw [show (10 : Int) ^ (30 : Int).toNat = m30 from by decide +kernel])
  refine Zu6 G U8.a rfl Zad ks.kn Kv.int.kn (Znw c3) ?_
  show Ends (putQ (op8 (pre8 (b8 k) s) s) (.str s) (.int m30)) _ _
  rw [Zjp (B := op8 (pre8 (b8 k) s) s) c4]
  refine nx4 _ _ ?_
  dsimp only [Zas, Zao]
  refine Zbf hM (by decide) (by decide) Zad rfl ?_
  refine Eq.mpr (Zac) (Eq.mpr (Zae) ?_)
  show wpXs _ [.bin .Pow (.lit (.int 10)) (.lit (.int 30))] _ _ _ _
  dsimp only [Zac, Zaw, Zag, Zdb]
  refine ⟨⟨by decide, by decide, by decide +kernel⟩, ?_⟩
  (dsimp only [Zaf]; rw [show (10 : Int) ^ (30 : Int).toNat = m30 from by decide +kernel])
  refine Zu6 G U8.a rfl Zad ks.kn Kv.int.kn (Znw c5) ?_
  show Ends (putQ (pt8 (op8 (pre8 (b8 k) s) s) s) (.str s) (.int m30)) _ _
  rw [Zjp (B := pt8 (op8 (pre8 (b8 k) s) s) s) c6]
  refine hI _ _ _ ⟨⟨_, _, rfl⟩, (((hk'.trans k1).trans .up).trans .up).trans .up, ?_⟩
  rw [Zad, b8_s hs]; rfl
end
end Mine
end
section
open PySem PySem.W PyProof.Rows PySem.Spec PySem.SeqAt PySem.Calls
namespace Mine
open L08
noncomputable def fre8 (s : Str) : Int := 2 * m30 + (if (s == S8 "e") = true then 1 else 0) - (if (s == S8 "b") = true then 1 else 0)
noncomputable def ckp (s : Str) : Bool := Zbn Bf8 (.str s) && (Zda Bf8 (.str s) == fre8 s) && (Zd2 Bf8 (.str s) == 0)
theorem Zug : ∀ s ∈ pu8, ckp s = true := by decide +kernel
theorem isi8 {H : Zaa} {a : Addr} (ha : H a = some (.exc "Uneven")) {ty : String} (h : ty = "ValueError" ∨ ty = "Uneven") : Zcb L08.P H (.ref a) ty = some true := by
  unfold Zcb
  rcases h with rfl | rfl <;> (rw [if_neg (by decide)]; dsimp only; rw [ha]; rfl)
theorem t_un : Zdl Bf8 (.str (S8 "cleo")) [(.str (S8 "b"), .int 2)] [(.str (S8 "e"), .int 3)] [] (.int 9) = .error "Uneven" := by kernel_rfl
noncomputable def Bc8 : Bk := ⟨2, fr8, as8, Bf8.pacts ++ [⟨S8 "cleo", [(S8 "b", 2)], [(S8 "e", 2)], [], 9, .opn, []⟩]⟩
theorem t_ok : Zdl Bf8 (.str (S8 "cleo")) [(.str (S8 "b"), .int 2)] [(.str (S8 "e"), .int 2)] [] (.int 9) = .ok Bc8 := by kernel_rfl
theorem ld3 {g : Gx} {V : VV} {H : Zaa} {e1 e2 e3 : X} {v1 v2 v3 : AV} (h1 : Pure g V e1 v1) (h2 : Pure g V e2 v2) (h3 : Pure g V e3 v3) : Zqk g V (.list [e1, e2, e3]) [v1, v2, v3] H := fun Q E H1 _ q => by
  rw [Zam, Zac]
  refine h1 _ _ _ ?_
  rw [Zac]
  refine h2 _ _ _ ?_
  rw [Zac]
  refine h3 _ _ _ ?_
  rw [Zaf]
  intro z hz
  exact q _ z (Ext.refl.new hz) Zad
theorem ld4 {g : Gx} {V : VV} {H : Zaa} {e1 e2 e3 e4 : X} {v1 v2 v3 v4 : AV} (h1 : Pure g V e1 v1) (h2 : Pure g V e2 v2) (h3 : Pure g V e3 v3) (h4 : Pure g V e4 v4) : Zqk g V (.list [e1, e2, e3, e4]) [v1, v2, v3, v4] H := fun Q E H1 _ q => by
  rw [Zam, Zac]
  refine h1 _ _ _ ?_
  rw [Zac]
  refine h2 _ _ _ ?_
  rw [Zac]
  refine h3 _ _ _ ?_
  rw [Zac]
  refine h4 _ _ _ ?_
  rw [Zaf]
  intro z hz
  exact q _ z (Ext.refl.new hz) Zad
section
variable {c : Cx} (G : Gd c L08.P) {n : Nat} {V : VV} {Q : AV → Zaa → Prop} {E : String → Zaa → Prop} {H : Zaa} {b pu : Addr}
include G
theorem Zmx (hb : H b = some (.book Bf8)) (hpu : H pu = some (.list (txs pu8))) (q : ∀ H', Q (.bool true) H') : CallOK c (n + 5) true "_law_refused_again" [.ref b, .ref pu] Q E H := by
  refine G.call (F := L08.f__law_refused_again) rfl rfl ?_
  have hM : c.P.meths = BK.meths := by rw [G.hP]; rfl
  have ok := Zgc o_f8
  show wpSs _ _ _ _ _ [some (.ref b), some (.ref pu), none, none, none, none] _
  refine w_st fun K nx => ?_
  dsimp only [Zba]
  refine ⟨rfl, ?_⟩
  dsimp only [Zae]
  show WFor _ _ (.ref pu) _ _
  refine Zcw (xs := txs pu8) (by simp only [Zan, hpu]) (fun k V' H' => H' = H ∧ ∃ p2 p3, V' = [some (.ref b), some (.ref pu), p2, p3, none, none]) ⟨rfl, _, _, rfl⟩ ?_
  rintro I hI k V' H' ⟨rfl, p2, p3, rfl⟩
  refine ⟨rfl, fun hk => ?_, fun y hy => ?_⟩
  · refine nx _ _ ?_
    refine w_st fun K nx => ?_
    dsimp only [Zaj, tv, List.length_cons, List.length_nil, Nat.reduceAdd, List.set_cons_succ, List.set_cons_zero, Zag]
    refine ⟨by decide, nx _ _ ?_⟩
    refine w_st fun K nx => ?_
    show wpS _ _ _ _ _ [some (.ref b), some (.ref pu), p2, p3, some (.bool false), none] _
    dsimp only [Zdf]
    refine ⟨rfl, ?_⟩
    dsimp only [Zas, Zao]
    refine Zs5 G hb ok rfl Zay (lay1 Zay Zay (k8 (by decide)) .int) (lay1 Zay Zay (k8 (by decide)) .int) Zrr Zay (k8 (by decide)) .int (fun v hv => by cases hv) (by decide) (by decide) (by decide) fun H1 E1 => ?_
    rw [t_un]
    show wpHs _ [_] "Uneven" _ _ _ _ _
    (dsimp only [Ziz, Zua]; rw [show (⟨c, n + 4, true⟩ : Gx).c.P = L08.P from G.hP, show Zdj L08.P "Uneven" "BookError" = true from by decide +kernel]; refine Eq.mpr (if_pos rfl) ?_)
    intro a ha
    refine ⟨show 5 < 6 by decide, ?_⟩
    have E2 := Ext.refl.new (o := .exc "Uneven") ha
    have ha2 : up H1 a (.exc "Uneven") a = some (.exc "Uneven") := Zad
    generalize up H1 a (.exc "Uneven") = H2 at E2 ha2
    dsimp only [Zas, Zaj, x_ao, Zat, Zbl, Zae]
    show match Zcb c.P H2 (.ref a) "ValueError" with | some b => _ | none => False
    rw [G.hP, isi8 ha2 (.inl rfl)]
    show Zbh (.bool true) H2 _
    (dsimp only [Zai]; refine Eq.mpr (if_pos rfl) ?_; dsimp only [Za5, Zbl, Zae])
    show match Zcb c.P H2 (.ref a) "Uneven" with | some b => _ | none => False
    rw [G.hP, isi8 ha2 (.inr rfl)]
    refine ⟨show 4 < 6 by decide, nx _ _ ?_⟩
    have E12 := E1.trans E2
    have hb2 := E12 _ _ hb
    show wpSs _ _ _ _ _ [some (.ref b), some (.ref pu), p2, p3, some (.bool true), none] _
    refine w_st fun K nx => ?_
    dsimp only [Zax, x_ao, Zat, Za9, Zae]
    show wpAO _ false [_, _] _ _ _ _
    dsimp only [Zat, Zak]
    refine Zbf hM (by decide) (by decide) hb2 rfl ?_
    dsimp only [Zaf]
    refine Znu G U8.a hb2 (by decide) fun z3 hz3 => ?_
    have E3 := Ext.refl.new (o := .list (Bf8.pacts.map fun e => .str e.name)) hz3
    refine ld3 Zay Zay Zay _ _ _ .refl fun H4 z4 E4 hz4 => ?_
    dsimp only [Znm]
    refine Zex (l := [S8 "ann", S8 "bob", S8 "dan"]) (l' := [S8 "ann", S8 "bob", S8 "dan"]) (E4 _ _ Zad) hz4 ?_
    (rw [decide_eq_true rfl]; dsimp only [Zai]; refine Eq.mpr (if_pos (by decide)) ?_; dsimp only [Za5, Zak])
    have hb4 := E4 _ _ (E3 _ _ hb2)
    refine Zbf hM (by decide) (by decide) hb4 rfl ?_
    refine Eq.mpr (Zac) (Eq.mpr (Zag) (Eq.mpr (Zaf) ?_))
    refine Zko G U8 rfl hb4 (k8 (by decide)) ?_
    rw [show Zcp Bf8 (.str (S8 "dan")) = some (2, ⟨S8 "dan", [(S8 "b", 1)], [(S8 "e", 1)], [], 9, .dn, []⟩) from by kernel_rfl]
    show wpX _ (.lit (.str (S8 "done"))) _ _ _ _
    dsimp only [Zag]
    show wcmp .NotEq (.str (S8 "done")) (.str (S8 "done")) _ _
    (dsimp only [Zdp, Zai]; refine Eq.mpr (if_neg (by decide +kernel)) ?_)
    refine nx _ _ ?_
    refine w_st fun K nx => ?_
    dsimp only [Zax, Zak]
    refine Zs5 G hb4 ok rfl Zay (lay1 Zay Zay (k8 (by decide)) .int) (lay1 Zay Zay (k8 (by decide)) .int) Zrr Zay (k8 (by decide)) .int (fun v hv => by cases hv) (by decide) (by decide) (by decide) fun H5 E5 => ?_
    rw [t_ok]
    unfold Ends
    dsimp only
    dsimp only [Zag]
    show K [some (.ref b), some (.ref pu), p2, p3, some (.bool true), none] (up H5 b (.book Bc8))
    refine nx _ _ ?_
    have hb5 : up H5 b (.book Bc8) b = some (.book Bc8) := Zad
    generalize up H5 b (.book Bc8) = H6 at hb5
    dsimp only [Zas, Za8, x_ao, Zat, Zak]
    refine Zbf hM (by decide) (by decide) hb5 rfl ?_
    dsimp only [Zaf]
    refine Znu G U8.a hb5 (by decide) fun z7 hz7 => ?_
    have E7 := Ext.refl.new (o := .list (Bc8.pacts.map fun e => .str e.name)) hz7
    refine ld4 Zay Zay Zay Zay _ _ _ .refl fun H8 z8 E8 hz8 => ?_
    dsimp only [Zr7]
    refine Zex (l := [S8 "ann", S8 "bob", S8 "dan", S8 "cleo"]) (l' := [S8 "ann", S8 "bob", S8 "dan", S8 "cleo"]) (E8 _ _ Zad) hz8 ?_
    (rw [decide_eq_true rfl]; dsimp only [Zai]; refine Eq.mpr (if_pos (by decide)) ?_; dsimp only [Za5, Zak])
    have hb8 := E8 _ _ (E7 _ _ hb5)
    refine Zbf hM (by decide) (by decide) hb8 rfl ?_
    refine Eq.mpr (Zac) (Eq.mpr (Zag) (Eq.mpr (Zaf) ?_))
    refine Zko G U8 rfl hb8 (k8 (by decide)) ?_
    rw [show Zcp Bc8 (.str (S8 "cleo")) = some (3, ⟨S8 "cleo", [(S8 "b", 2)], [(S8 "e", 2)], [], 9, .opn, []⟩) from by kernel_rfl]
    show wpX _ (.lit (.str (S8 "open"))) _ _ _ _
    dsimp only [Zag]
    show wcmp .Eq (.str (S8 "open")) (.str (S8 "open")) _ _
    (dsimp only [Zci]; rw [show (S8 "open" == S8 "open") = true from beq_self_eq_true _])
    exact q _
  obtain ⟨s, rfl, hs⟩ := Zeb hy
  have hsl : s ∈ pu8 := List.mem_of_getElem? hs
  have ks := Zga s hsl
  have ck := Zug s hsl
  unfold ckp at ck
  simp only [Bool.and_eq_true, beq_iff_eq] at ck
  obtain ⟨⟨c1, c2⟩, c3⟩ := ck
  refine ⟨show 2 < 6 by decide, ?_⟩
  refine w_st fun K2 nx2 => ?_
  show wpS _ _ _ _ _ [some (.ref b), some (.ref pu), some (.str s), p3, none, none] _
  dsimp only [Zaj]
  dsimp only [tv, List.length_cons, List.length_nil, Nat.reduceAdd, List.set_cons_succ, List.set_cons_zero, Zaw, Zar, Zac, Zaf, Zak, Zag, Zae, List.getElem?_cons_succ, v_0, Zci, Zdb, Int.reduceToNat, Int.reducePow, Zet, Int.reduceMul]
  refine ⟨⟨by decide, by decide, by decide +kernel⟩, IntMulOk.of_left (by decide +kernel), ?_⟩
  refine ⟨by decide, nx2 _ _ ?_⟩
  show wpSs _ _ _ _ _ [some (.ref b), some (.ref pu), some (.str s), some (.int (fre8 s)), none, none] _
  dsimp only [Zas, Zax, x_ao, Zat, Zak]
  refine Zbf hM (by decide) (by decide) hb rfl ?_
  refine Eq.mpr (Zac) (Eq.mpr (Zae) ?_)
  show wpXs _ [] _ _ _ _
  rw [Zaf]
  refine Zmh G U8.a hb ks.kn ?_
  rw [if_pos c1, c2, Zae]
  show wcmp .NotEq (.int (fre8 s)) (.int (fre8 s)) _ _
  (dsimp only [c_ne, Zai]; rw [show (fre8 s != fre8 s) = false from bne_self_eq_false _]; refine Eq.mpr (if_pos rfl) ?_; dsimp only [Za5, Zak])
  refine Zbf hM (by decide) (by decide) hb rfl ?_
  dsimp only [Zac, Zae]
  show wpXs _ [] _ _ _ _
  dsimp only [Zaf]
  refine Zkh G U8.a hb ks.kn ok.both ?_
  (refine Eq.mpr (if_pos c1) ?_; rw [c3]; dsimp only [Zag])
  show wcmp .NotEq (.int 0) (.int 0) _ _
  (dsimp only [c_ne, Zai]; refine Eq.mpr (if_neg (by decide)) ?_)
  exact hI _ _ _ ⟨rfl, _, _, rfl⟩
end
end Mine
end
section
open PySem PySem.W PyProof.Rows PySem.Spec PySem.SeqAt PySem.Calls
namespace Mine
open L08
noncomputable def vl (l : List (Str × Int)) (s : Str) : Int := (lk l s).getD 0
theorem Zk8 {l : List (Str × Int)} {k : Str} {v : Int} (h : hs l k = true) : (pt l k v).map (·.1) = l.map (·.1) := by
  unfold pt
  rw [if_pos (show (lk l k).isSome = true from h), List.map_map]
  apply List.map_congr_left
  intro e _
  show (if e.1 = k then (e.1, v) else e).1 = e.1
  split <;> rfl
noncomputable def sb (l : List (Str × Int)) (e : Str × Int) : List (Str × Int) := pt l e.1 (vl l e.1 - e.2)
noncomputable def ap (l : List (Str × Int)) (e : Str × Int) : List (Str × Int) := pt l e.1 (vl l e.1 + e.2)
noncomputable def sAt (ps : List (Str × Int)) (s : Str) : Int := (ps.map fun e => if e.1 = s then e.2 else 0).sum
theorem Zs1 {l : List (Str × Int)} {k s : Str} {v : Int} (h : hs l k = true) : vl (pt l k v) s = if s = k then v else vl l s := by
  unfold vl
  rw [Ztu]
  split <;> rfl
theorem Zpk {l l' : List (Str × Int)} (h : l.map (·.1) = l'.map (·.1)) {k : Str} : hs l k = hs l' k := by rw [Zhn, Zhn, h]
theorem Zsi : ∀ {ps l : List (Str × Int)}, (∀ e ∈ ps, hs l e.1 = true) → (ps.foldl sb l).map (·.1) = l.map (·.1) ∧ ∀ s, vl (ps.foldl sb l) s = vl l s - sAt ps s
  | [], l, _ => ⟨rfl, fun s => by show _ = _ - (0 : Int); rw [Int.sub_zero]; rfl⟩
  | e :: ps, l, h => by
    have h1 := h e (.head _)
    have hk : (sb l e).map (·.1) = l.map (·.1) := Zk8 h1
    obtain ⟨i1, i2⟩ := Zsi (ps := ps) (l := sb l e) fun x hx => by rw [Zpk hk]; exact h x (.tail _ hx)
    refine ⟨i1.trans hk, fun s => ?_⟩
    rw [List.foldl_cons, i2]
    unfold sb
    rw [Zs1 h1]
    show _ = _ - ((if e.1 = s then e.2 else 0) + sAt ps s)
    by_cases hs' : s = e.1
    · rw [if_pos hs', if_pos hs'.symm, hs']; lia
    · rw [if_neg hs', if_neg (fun q => hs' q.symm)]; lia
theorem Zqe : ∀ {ps l : List (Str × Int)}, (∀ e ∈ ps, hs l e.1 = true) → (ps.foldl ap l).map (·.1) = l.map (·.1) ∧ ∀ s, vl (ps.foldl ap l) s = vl l s + sAt ps s
  | [], l, _ => ⟨rfl, fun s => by show _ = _ + (0 : Int); rw [Int.add_zero]; rfl⟩
  | e :: ps, l, h => by
    have h1 := h e (.head _)
    have hk : (ap l e).map (·.1) = l.map (·.1) := Zk8 h1
    obtain ⟨i1, i2⟩ := Zqe (ps := ps) (l := ap l e) fun x hx => by rw [Zpk hk]; exact h x (.tail _ hx)
    refine ⟨i1.trans hk, fun s => ?_⟩
    rw [List.foldl_cons, i2]
    unfold ap
    rw [Zs1 h1]
    show _ = _ + ((if e.1 = s then e.2 else 0) + sAt ps s)
    by_cases hs' : s = e.1
    · rw [if_pos hs', if_pos hs'.symm, hs']; lia
    · rw [if_neg hs', if_neg (fun q => hs' q.symm)]; lia
theorem Zn4 : ∀ {ps : List (Str × Int)} {s : Str}, s ∉ ps.map (·.1) → sAt ps s = 0
  | [], _, _ => rfl
  | e :: ps, s, h => by
    rw [List.map_cons, List.mem_cons, not_or] at h
    show (if e.1 = s then e.2 else 0) + sAt ps s = 0
    rw [if_neg (fun q => h.1 q.symm), Zn4 h.2]; rfl
structure Pr8 (l : List (AV × AV)) (ps : List (Str × Int)) : Prop where
  is : ps.map (fun e => (AV.str e.1, AV.int e.2)) = l
  nd : (ps.map (·.1)).Nodup
  mem : ∀ e ∈ ps, e.1 ∈ pu8 ∧ 1 ≤ e.2 ∧ e.2 ≤ m30
  len : 1 ≤ ps.length ∧ ps.length ≤ 8
theorem Zji {B : Bk} (I : Is8 B) : ∀ {l : List (AV × AV)} {acc r : List (Str × Int)}, (acc.map (·.1)).Nodup → Zdg B l acc = .ok r → ∃ s, r = acc ++ s ∧ s.map (fun e => (AV.str e.1, AV.int e.2)) = l ∧ ((acc ++ s).map (·.1)).Nodup ∧ ∀ e ∈ s, e.1 ∈ pu8 ∧ 1 ≤ e.2 ∧ e.2 ≤ m30
  | [], acc, r, nd, h => by cases h; exact ⟨[], (List.append_nil _).symm, rfl, by rw [List.append_nil]; exact nd, fun e he => by cases he⟩
  | x :: l, acc, r, nd, h => by
    unfold Zdg at h
    rw [Zsj I] at h
    cases hin : inP x.1 with
    | false => rw [hin, if_neg Bool.false_ne_true] at h; cases h
    | true =>
    rw [hin, if_pos rfl] at h
    by_cases hm : Zaz x.1 ∈ acc.map (·.1)
    · rw [if_pos hm] at h; cases h
    rw [if_neg hm] at h
    cases ha : Zb1 x.2 with
    | false => rw [ha, if_neg Bool.false_ne_true] at h; cases h
    | true =>
    rw [ha, if_pos rfl] at h
    obtain ⟨k, hk, hk8⟩ : ∃ k, x.1 = .str k ∧ k ∈ pu8 := by
      revert hin; unfold inP inL
      cases x.1 with
      | str s => exact fun h => ⟨s, rfl, of_decide_eq_true h⟩
      | _ => exact fun h => by cases h
    obtain ⟨i, hi, hi1⟩ : ∃ i, x.2 = .int i ∧ (1 ≤ i ∧ i ≤ m30) := by
      revert ha
      cases x.2 with
      | int i => exact fun h => ⟨i, rfl, of_decide_eq_true h⟩
      | _ => exact fun h => by cases h
    have nd' : ((acc ++ [(Zaz x.1, Zc9 x.2)]).map (·.1)).Nodup := by
      rw [List.map_append, List.nodup_append]
      refine ⟨nd, List.nodup_cons.mpr ⟨by simp, List.nodup_nil⟩, fun a ha b hb => ?_⟩
      rw [List.mem_singleton.mp (show b ∈ [Zaz x.1] from hb)]
      exact fun e => hm (e ▸ ha)
    obtain ⟨s, rfl, h2, h3, h4⟩ := Zji I nd' h
    refine ⟨(k, i) :: s, ?_, ?_, ?_, ?_⟩
    · rw [hk, hi, List.append_assoc]; rfl
    · rw [List.map_cons, h2, ← hk, ← hi]
    · rw [hk, hi, List.append_assoc] at h3; exact h3
    · intro e he
      cases he with
      | head => exact ⟨hk8, hi1⟩
      | tail _ he => exact h4 e he
set_option tactic.hygienic true in
theorem Zjh {B : Bk} (I : Is8 B) {l : List (AV × AV)} {r : List (Str × Int)} (h : Zcf B l = .ok r) : Pr8 l r := by
  unfold Zcf at h
  split at h
  · rename_i hl
    obtain ⟨s, rfl, h2, h3, h4⟩ := Zji I (acc := []) List.nodup_nil h
    rw [List.nil_append] at h3
    rw [← h2, List.length_map] at hl
    exact ⟨h2, h3, h4, hl⟩
  · cases h
end Mine
end
section
open PySem PySem.W PyProof.Rows PySem.Spec PySem.SeqAt PySem.Calls
namespace Mine
open L08
structure X8 (x : Pc) : Prop where
  name : x.name = S8 "cleo"
  st : x.state = .opn
  pn : (x.parts.map (·.1)).Nodup
  pm : ∀ e ∈ x.parts, e.1 ∈ pu8 ∧ 1 ≤ e.2 ∧ e.2 ≤ m30
  pl : x.parts.length ≤ 8
  gm : ∀ e ∈ x.gains, e.1 ∈ pu8 ∧ 1 ≤ e.2 ∧ e.2 ≤ m30
  gl : x.gains.length ≤ 8
  nl : x.needs.length ≤ 8
  ins : x.inside = []
noncomputable def xm (x : Pc) (m : Nat) : Pc := { x with inside := (x.parts.take m).map (·.1) }
noncomputable def bm (x : Pc) (m : Nat) : Bk := ⟨2, (x.parts.take m).foldl sb fr8, (x.parts.take m).foldl ap as8, Bf8.pacts ++ [xm x m]⟩
theorem Zub : fr8.map (·.1) = pu8 := by decide +kernel
theorem Zwq : as8.map (·.1) = pu8 := by decide +kernel
theorem Zx0 {s : Str} : vl as8 s = 0 := by
  unfold vl
  cases h : lk as8 s with
  | none => rfl
  | some v =>
    unfold lk at h
    rw [Option.map_eq_some_iff] at h
    obtain ⟨e, he, rfl⟩ := h
    have := List.mem_of_find?_eq_some he
    obtain ⟨k, _, rfl⟩ := List.mem_map.mp this
    rfl
theorem Zwj : ∀ s ∈ pu8, vl fr8 s = fre8 s ∧ m30 ≤ vl fr8 s := by decide +kernel
theorem Zf1 {l : List (Str × Int)} (h : l.map (·.1) = pu8) {s : Str} : hs l s = decide (s ∈ pu8) := by rw [Zhn, h]
section
variable {x : Pc} (X : X8 x)
include X
theorem bm_f (m : Nat) : ((bm x m).free.map (·.1) = pu8) ∧ ∀ s, vl (bm x m).free s = vl fr8 s - sAt (x.parts.take m) s := by
  obtain ⟨h1, h2⟩ := Zsi (ps := x.parts.take m) (l := fr8) fun e he => by rw [Zf1 Zub]; exact decide_eq_true (X.pm e (List.mem_of_mem_take he)).1
  exact ⟨h1.trans Zub, h2⟩
theorem bm_a (m : Nat) : ((bm x m).aside.map (·.1) = pu8) ∧ ∀ s, vl (bm x m).aside s = sAt (x.parts.take m) s := by
  obtain ⟨h1, h2⟩ := Zqe (ps := x.parts.take m) (l := as8) fun e he => by rw [Zf1 Zwq]; exact decide_eq_true (X.pm e (List.mem_of_mem_take he)).1
  exact ⟨h1.trans Zwq, fun s => by rw [show (bm x m).aside = (x.parts.take m).foldl ap as8 from rfl, h2, Zx0, Int.zero_add]⟩
theorem bm_p (m : Nat) : Zcp (bm x m) (.str (S8 "cleo")) = some (3, xm x m) := by
  show pAt (Bf8.pacts ++ [xm x m]) (S8 "cleo") = _
  show pAt (_ :: _ :: _ :: [xm x m]) (S8 "cleo") = _
  unfold pAt
  rw [if_neg (by decide +kernel)]
  unfold pAt
  rw [if_neg (by decide +kernel)]
  unfold pAt
  rw [if_neg (by decide +kernel)]
  unfold pAt
  rw [if_pos (show (xm x m).name = S8 "cleo" from X.name)]
  rfl
theorem Zka (m : Nat) : BkOK (bm x m) := by
  have hf := (bm_f X m).1
  have ha := (bm_a X m).1
  have fl : (bm x m).free.length = 9 := by have := congrArg List.length hf; rw [List.length_map] at this; exact this
  have al : (bm x m).aside.length = 9 := by have := congrArg List.length ha; rw [List.length_map] at this; exact this
  have ok := Zgc o_f8
  have get : ∀ (j : Nat) (y : Pc), (bm x m).pacts[j]? = some y → Bf8.pacts[j]? = some y ∨ y = xm x m := fun j y h => by
    have h : (Bf8.pacts ++ [xm x m])[j]? = some y := h
    rw [List.getElem?_append] at h
    split at h
    · exact .inl h
    · right
      have := List.mem_of_getElem? h
      exact List.mem_singleton.mp this
  refine ⟨⟨by rw [fl]; decide, by rw [al]; decide⟩, fun k hk => ?_, by show 4 ≤ 100; decide, fun j y hy k hk => ?_, fun j y hy => ?_, fun j y hy e he => ?_⟩
  · rw [Zf1 hf] at hk; rw [Zf1 ha]; exact hk
  · rcases get j y hy with h | rfl
    · exact ok.part j y h k hk
    · have hk : k ∈ (x.parts.take m).map (·.1) := hk
      obtain ⟨e, he, rfl⟩ := List.mem_map.mp hk
      show hs x.parts e.1 = true
      rw [Zhn]
      exact decide_eq_true (List.mem_map.mpr ⟨e, List.mem_of_mem_take he, rfl⟩)
  · rcases get j y hy with h | rfl
    · exact ok.inl j y h
    · refine ⟨?_, Nat.le_trans X.pl (by decide), Nat.le_trans X.gl (by decide), Nat.le_trans X.nl (by decide)⟩
      show ((x.parts.take m).map (·.1)).length ≤ 100
      rw [List.length_map]
      exact Nat.le_trans (List.length_take_le' _ _) (Nat.le_trans X.pl (by decide))
  · rw [Zf1 hf]
    rcases get j y hy with h | rfl
    · have this : hs fr8 e.1 = true := ok.purse j y h e he
      rw [Zf1 Zub] at this; exact this
    · rcases he with he | he
      · exact decide_eq_true (X.pm e he).1
      · exact decide_eq_true (X.gm e he).1
omit X in
theorem Zvs {ps : List (Str × Int)} {m : Nat} {e : Str × Int} (nd : (ps.map (·.1)).Nodup) (he : ps[m]? = some e) : e.1 ∉ (ps.take m).map (·.1) := by
  intro h
  obtain ⟨hm, hme⟩ := List.getElem?_eq_some_iff.mp he
  have hsplit : ps.map (·.1) = (ps.take m).map (·.1) ++ e.1 :: (ps.drop (m + 1)).map (·.1) := by
    conv => lhs; rw [← List.take_append_drop m ps, List.drop_eq_getElem_cons hm, hme, List.map_append, List.map_cons]
  rw [hsplit, List.nodup_append] at nd
  exact nd.2.2 _ h _ (.head _) rfl
omit X in
theorem Zv2 : ∀ {ps : List (Str × Int)} {e : Str × Int}, (ps.map (·.1)).Nodup → e ∈ ps → lk ps e.1 = some e.2
  | a :: ps, e, nd, h => by
    rw [Zeh]
    rw [List.map_cons, List.nodup_cons] at nd
    cases h with
    | head => rw [if_pos rfl]
    | tail _ h =>
      rw [if_neg (fun q => nd.1 (List.mem_map.mpr ⟨e, h, q.symm⟩)), Zv2 nd.2 h]
theorem Zul {m : Nat} {e : Str × Int} (he : x.parts[m]? = some e) : Zfq (bm x m) (.str e.1) (.str (S8 "cleo")) = .ok (bm x (m + 1)) ∧ Zd2 (bm x (m + 1)) (.str e.1) = e.2 ∧ Zbn (bm x (m + 1)) (.str e.1) = true := by
  have hm := X.pm e (List.mem_of_getElem? he)
  have hn := Zvs X.pn he
  have ht : x.parts.take (m + 1) = x.parts.take m ++ [e] := Zbw he
  have pb : ∀ m', Zbn (bm x m') (.str e.1) = true := fun m' => by
    show (isNm e.1 && hs (bm x m').free e.1) = true
    rw [Zob _ hm.1, Zf1 (bm_f X m').1, decide_eq_true hm.1]; rfl
  have hfv : vl (bm x m).free e.1 = vl fr8 e.1 := by rw [(bm_f X m).2, Zn4 hn, Int.sub_zero]
  refine ⟨?_, ?_, pb _⟩
  · unfold Zfq
    rw [if_pos (pb m), bm_p X m]
    dsimp only
    rw [if_pos (show (xm x m).state = .opn from X.st), show lk (xm x m).parts (Zaz (.str e.1)) = some e.2 from Zv2 X.pn (List.mem_of_getElem? he)]
    dsimp only
    rw [if_neg (show ¬ Zaz (.str e.1) ∈ (xm x m).inside from hn), if_neg (show ¬ Zda (bm x m) (.str e.1) < e.2 from fun h => by
      have h : vl (bm x m).free e.1 < e.2 := h
      rw [hfv] at h
      have := (Zwj e.1 hm.1).2
      lia)]
    have e1 : (bm x (m + 1)).free = sb (bm x m).free e := by show (x.parts.take (m + 1)).foldl sb fr8 = _; rw [ht, List.foldl_append]; rfl
    have e2 : (bm x (m + 1)).aside = ap (bm x m).aside e := by show (x.parts.take (m + 1)).foldl ap as8 = _; rw [ht, List.foldl_append]; rfl
    have e3 : (bm x (m + 1)).pacts = (bm x m).pacts.set 3 { xm x m with inside := (xm x m).inside ++ [Zaz (.str e.1)] } := by
      show Bf8.pacts ++ [xm x (m + 1)] = (_ :: _ :: _ :: [xm x m]).set 3 _
      have : xm x (m + 1) = { xm x m with inside := (xm x m).inside ++ [Zaz (.str e.1)] } := by
        unfold xm
        rw [ht, List.map_append]; rfl
      rw [this]; rfl
    have hbk : bm x (m + 1) = ⟨2, (bm x (m + 1)).free, (bm x (m + 1)).aside, (bm x (m + 1)).pacts⟩ := rfl
    rw [hbk, e1, e2, e3]; rfl
  · show vl (bm x (m + 1)).aside e.1 = e.2
    rw [(bm_a X (m + 1)).2, ht]
    have : sAt (x.parts.take m ++ [e]) e.1 = sAt (x.parts.take m) e.1 + (e.2 + 0) := by
      unfold sAt
      rw [List.map_append, List.sum_append]
      show _ + ((if e.1 = e.1 then e.2 else 0) + 0) = _
      rw [if_pos rfl]
    rw [this, Zn4 hn]; lia
end
end Mine
end
section
open PySem PySem.W PyProof.Rows PySem.Spec PySem.SeqAt PySem.Calls
namespace Mine
open L08
theorem Zg7 : ∀ {l : List (Str × Int)} {B : Bk}, (payAll l B).free = B.free
  | [], _ => rfl
  | e :: l, B => Zg7 (l := l)
theorem Zgi : ∀ {l : List (Str × Int)} {B : Bk}, (gainAll l B).free = l.foldl ap B.free
  | [], _ => rfl
  | e :: l, B => Zgi (l := l)
section
variable {x : Pc} (X : X8 x)
include X
theorem Zsw : Zgn (xm x x.parts.length) = true := by
  unfold Zgn xm
  rw [X.st, List.take_length, List.length_map]
  show (true && (x.parts.length == x.parts.length)) = true
  rw [beq_self_eq_true]; rfl
theorem Zwi (h : 1 ≤ x.parts.length) : Zgn (xm x 0) = false := by
  unfold Zgn xm
  rw [X.st, List.take_zero]
  show (true && (0 == x.parts.length)) = false
  rw [Bool.true_and]
  exact beq_false_of_ne (by lia)
theorem Zrv (m : Nat) (hm : x.parts.length ≤ m) : Zei (xm x m) = x.parts.map (·.1) := by
  unfold Zei xm
  dsimp only
  rw [List.take_of_length_le hm, List.filter_eq_self.mpr]
  intro e he
  exact decide_eq_true (List.mem_map.mpr ⟨e, he, rfl⟩)
omit X in
theorem Zrw : Zei (xm x 0) = [] := by
  unfold Zei xm
  dsimp only
  rw [List.take_zero, List.filter_eq_nil_iff.mpr]
  · rfl
  · intro e he h
    have := of_decide_eq_true h
    cases this
theorem Zwh : Zcv (bm x x.parts.length).pacts = [S8 "cleo"] := by
  show Zcv (Bf8.pacts ++ [xm x x.parts.length]) = _
  rw [Zif, Zsw X, if_pos rfl, show Zcv Bf8.pacts = [] from by decide +kernel]
  show [x.name] = _
  rw [X.name]
theorem Zwn {m : Nat} : Zf5 (bm x m).pacts = [S8 "dan"] := by
  show Zf5 (Bf8.pacts ++ [xm x m]) = _
  rw [Zih, show ((xm x m).state == Sta.dn) = false from by rw [show (xm x m).state = .opn from X.st]; rfl, show Zf5 Bf8.pacts = [S8 "dan"] from by decide +kernel]
  rfl
theorem Zsz (m : Nat) : pAt (bm x m).pacts (S8 "cleo") = some (3, xm x m) := by
  have := bm_p X m
  rw [show Zcp (bm x m) (.str (S8 "cleo")) = if isNm (S8 "cleo") then pAt (bm x m).pacts (S8 "cleo") else none from rfl, if_pos (by decide +kernel)] at this
  exact this
theorem nd_l {m : Nat} : ndB (bm x m) (S8 "cleo") = x.needs := by
  unfold ndB
  rw [Zsz X m]; rfl
theorem Ztq {m : Nat} : ((bm x m).pacts.map (·.name)).Nodup := by
  show ((Bf8.pacts ++ [xm x m]).map (·.name)).Nodup
  rw [List.map_append, show [xm x m].map (·.name) = [S8 "cleo"] from by show [x.name] = _; rw [X.name]]
  decide +kernel
theorem Zur {m : Nat} : ((bm x m).pacts.map fun e => AV.str e.name) = txs [S8 "ann", S8 "bob", S8 "dan", S8 "cleo"] := by
  show ((Bf8.pacts ++ [xm x m]).map fun e => AV.str e.name) = _
  rw [List.map_append, show ([xm x m].map fun e => AV.str e.name) = [.str (S8 "cleo")] from by show [AV.str x.name] = _; rw [X.name]]
  rfl
noncomputable def pd8 (x : Pc) (s : Str) : Int := fre8 s - sAt x.parts s + sAt x.gains s
theorem Zw7 : (Zcq [S8 "cleo"] (bm x x.parts.length)).free.map (·.1) = pu8 ∧ ∀ s ∈ pu8, vl (Zcq [S8 "cleo"] (bm x x.parts.length)).free s = pd8 x s := by
  have e : (Zcq [S8 "cleo"] (bm x x.parts.length)).free = x.gains.foldl ap (bm x x.parts.length).free := by
    unfold Zcq
    rw [Zsz X]
    show (gainAll x.gains (payAll x.parts (bm x x.parts.length))).free = _
    rw [Zgi, Zg7]
  obtain ⟨f1, f2⟩ := bm_f X x.parts.length
  obtain ⟨h1, h2⟩ := Zqe (ps := x.gains) (l := (bm x x.parts.length).free) fun e he => by rw [Zf1 f1]; exact decide_eq_true (X.gm e he).1
  rw [e]
  refine ⟨h1.trans f1, fun s hs => ?_⟩
  rw [h2, f2, List.take_length, (Zwj s hs).1]; rfl
end
end Mine
end
section
open PySem PySem.W PyProof.Rows PySem.Spec PySem.SeqAt PySem.Calls
namespace Mine
open L08
theorem Zqn {Q : AV → Zaa → Prop} {H : Zaa} {ne : Bool} {a b : Addr} {l : List AV} (hl : ∀ v ∈ l, Kv v) (h : H a = some (.list l)) (h' : H b = some (.list l)) (q : Q (.bool (nt ne true)) H) : weq ne (.ref a) (.ref b) Q H := by
  simp only [weq, h]
  refine ⟨_, _, .list h (Zhz hl), .list h' (Zhz hl), ⟨Zfm, ?_⟩, ⟨Zfm, ?_⟩, ?_⟩
  · show PyData.depthAll _ + 1 ≤ 64; rw [Zfn]; decide
  · show PyData.depthAll _ + 1 ≤ 64; rw [Zfn]; decide
  · rw [show PyData.eqv (.list (l.map dV)) (.list (l.map dV)) = true from Zli]; exact q
section
variable {g : Gx} {V : VV} {Q : AV → Zaa → Prop} {E : String → Zaa → Prop} {H : Zaa} {d : Addr} {l : List (Str × Int)} {ep : Nat}
theorem dget {s : Str} (hd : H d = some (.dict ep (dI l))) (h : hs l s = true) (q : Q (.int (vl l s)) H) : wsub (.ref d) (.str s) Q H := by
  (dsimp only [Zf9]; rw [hd])
  exact ⟨.int (vl l s), by rw [Zhj, Zgf h]; rfl, q⟩
theorem dput {i : Nat} {ek : X} {s : Str} {v : Int} {K : VV → Zaa → Prop} (hV : V[i]? = some (some (.ref d))) (he : Pure g V ek (.str s)) (hd : H d = some (.dict ep (dI l))) (hl : l.length ≤ 1000) (q : ∀ ep, K V (up H d (.dict ep (dI (pt l s v))))) : wpT g (.sub (.var i) ek) (.int v) V K E H := by
  (dsimp only [tsub, Zae]; rw [hV])
  refine he _ _ _ ?_
  show match H d with | some (.dict _ es) => _ | _ => False
  rw [hd]
  exact ⟨by rw [Zhp]; exact Nat.le_trans hl (by decide), fun ep' => by rw [Zg5]; exact q ep'⟩
end
theorem Zu8 : pu8.Nodup := by decide +kernel
theorem Zru {l : List (Str × Int)} {k : Str} {v : Int} (h : hs l k = false) : (pt l k v).map (·.1) = l.map (·.1) ++ [k] := by
  unfold pt
  rw [if_neg (by unfold hs at h; rw [h]; exact Bool.false_ne_true), List.map_append]; rfl
structure Du (H H' : Zaa) (d : Addr) (ks : List Str) (f : Str → Int) : Prop where
  ext : Ext H H'
  at_ : ∃ ep l, H' d = some (.dict ep (dI l)) ∧ l.map (·.1) = ks ∧ ∀ s ∈ ks, vl l s = f s
section
variable {c : Cx} (G : Gd c L08.P) {n : Nat} {V : VV} {Q : AV → Zaa → Prop} {E : String → Zaa → Prop} {H : Zaa} {b pu : Addr}
theorem Du.len {H H' : Zaa} {d : Addr} {l : List (Str × Int)} (h : l.map (·.1) = pu8) : l.length ≤ 1000 := by
  have := congrArg List.length h
  rw [List.length_map] at this
  rw [this]; decide
theorem Zmm {g : Gx} {K : VV → Zaa → Prop} {EE : String → Zaa → Prop} {i : Nat} {ek : X} {s : Str} {d : Addr} {H' : Zaa} {f f' : Str → Int} {v : Int} (hd0 : H d = none) (hV : V[i]? = some (some (.ref d))) (he : Pure g V ek (.str s)) (hs8 : s ∈ pu8) (D : Du H H' d pu8 f) (hv : v = f' s) (hf : ∀ t, t ≠ s → f' t = f t) (q : ∀ H'', Du H H'' d pu8 f' → K V H'') : wpT g (.sub (.var i) ek) (.int v) V K EE H' := by
  obtain ⟨hE, ep, l, hd, hk, hv'⟩ := D
  refine dput hV he hd (Du.len (H := H) (H' := H') (d := d) hk) fun ep' => q _ ⟨hE.own hd0, ep', _, Zad, ?_, fun t ht => ?_⟩
  · rw [Zk8 (by rw [Zf1 hk]; exact decide_eq_true hs8)]; exact hk
  · rw [Zs1 (by rw [Zf1 hk]; exact decide_eq_true hs8)]
    by_cases e : t = s
    · rw [if_pos e, hv, e]
    · rw [if_neg e, hv' t ht, hf t e]
include G
theorem Ztk {x : Pc} (X : X8 x) {l1 l2 : Addr} {ts us : List Addr} (hb : H b = some (.book (bm x x.parts.length))) (hpu : H pu = some (.list (txs pu8))) (h1 : H l1 = some (.list (ts.map .ref))) (p1 : pairsH H ts (x.parts.map fun e => (.str e.1, .int e.2))) (h2 : H l2 = some (.list (us.map .ref))) (p2 : pairsH H us (x.gains.map fun e => (.str e.1, .int e.2)))
    (hn : ∀ o ∈ x.needs, o = S8 "dan") (q : ∀ H', Q (.bool true) H') : CallOK c (n + 4) true "_law_paid" [.ref b, .ref l1, .ref l2, .ref pu] Q E H := by
  refine G.call (F := L08.f__law_paid) rfl rfl ?_
  have hM : c.P.meths = BK.meths := by rw [G.hP]; rfl
  show wpSs _ _ _ _ _ [some (.ref b), some (.ref l1), some (.ref l2), some (.ref pu), none, none, none] _
  refine w_st fun K nx => ?_
  rw [Zaj, Zap]
  intro d hd0
  refine ⟨show 4 < 7 by decide, nx _ _ ?_⟩
  show wpSs _ _ _ _ _ [some (.ref b), some (.ref l1), some (.ref l2), some (.ref pu), some (.ref d), none, none] _
  have E1 := Ext.refl.new (o := .dict 0 (dI [])) hd0
  refine w_st fun K nx => ?_
  rw [Zba]
  refine ⟨rfl, ?_⟩
  rw [Zae]
  show WFor _ _ (.ref pu) _ _
  refine Zcw (xs := txs pu8) (by simp only [Zan]; rw [show up H d (.dict 0 []) pu = some (.list (txs pu8)) from E1 _ _ hpu]) (fun k V' H' => (∃ p5, V' = [some (.ref b), some (.ref l1), some (.ref l2), some (.ref pu), some (.ref d), p5, none]) ∧ Du H H' d (pu8.take k) (fun _ => 2 * m30)) ⟨⟨_, rfl⟩, E1, 0, [], Zad, rfl, fun s h => by cases h⟩ ?_
  rintro I hI k V' H' ⟨⟨p5, rfl⟩, D⟩
  refine ⟨by show H' pu = _; rw [D.ext _ _ hpu]; exact (E1 _ _ hpu).symm, fun hk => ?_, fun y hy => ?_⟩
  rotate_left
  · obtain ⟨s, rfl, hsk⟩ := Zeb hy
    refine ⟨show 5 < 7 by decide, ?_⟩
    show wpSs _ _ _ _ _ [some (.ref b), some (.ref l1), some (.ref l2), some (.ref pu), some (.ref d), some (.str s), none] _
    rw [Zas, Zaj]
    dsimp only [Zaw, Zag, Zdb, Int.reduceToNat, Int.reducePow, Zet, Int.reduceMul]
    refine ⟨⟨by decide, by decide, by decide +kernel⟩, IntMulOk.of_left (by decide +kernel), ?_⟩
    obtain ⟨hE, ep, l, hd, hk, hv⟩ := D
    have hno : hs l s = false := by
      rw [Zhn, hk]
      refine decide_eq_false fun h => ?_
      have := Zvs (ps := pu8.map fun k => (k, (0 : Int))) (m := k) (e := (s, 0)) (by rw [List.map_map]; show (pu8.map id).Nodup; rw [List.map_id]; exact Zu8) (by rw [List.getElem?_map, hsk]; rfl)
      apply this
      rw [← List.map_take, List.map_map]
      show s ∈ (pu8.take k).map id
      rw [List.map_id]; exact h
    refine dput (s := s) rfl (Zgp rfl) hd ?_ fun ep' => hI _ _ _ ⟨⟨_, rfl⟩, hE.own hd0, ep', _, Zad, ?_, fun t ht => ?_⟩
    · have := congrArg List.length hk
      rw [List.length_map] at this
      rw [this]
      exact Nat.le_trans (List.length_take_le' _ _) (by decide)
    · rw [Zru hno, hk, Zbw hsk]
    · rw [Zbw hsk, List.mem_append] at ht
      unfold vl
      rw [Ztu]
      by_cases e : t = s
      · rw [if_pos e]; rfl
      · rw [if_neg e]
        rcases ht with ht | ht
        · exact hv t ht
        · exact absurd (List.mem_singleton.mp ht) e
  rw [show k = 9 from hk] at D
  have D : Du H H' d pu8 (fun _ => 2 * m30) := D
  refine nx _ _ ?_
  show wpSs _ _ _ _ _ [some (.ref b), some (.ref l1), some (.ref l2), some (.ref pu), some (.ref d), p5, none] _
  have get : ∀ {H' : Zaa} {f : Str → Int} {s : Str} {Q' : AV → Zaa → Prop}, Du H H' d pu8 f → s ∈ pu8 → Q' (.int (f s)) H' → wsub (.ref d) (.str s) Q' H' := fun {H' f s Q'} D hs8 hq => by
    obtain ⟨_, ep, l, hd, hk, hv⟩ := D
    refine dget hd (by rw [Zf1 hk]; exact decide_eq_true hs8) ?_
    rw [hv s hs8]; exact hq
  have hbm : S8 "b" ∈ pu8 := by decide +kernel
  have hem : S8 "e" ∈ pu8 := by decide +kernel
  refine w_st fun K nx => ?_
  rw [Zaj]
  dsimp only [Zaw, Zag, Zau, Zae, List.getElem?_cons_succ, v_0]
  refine get D hbm ?_
  dsimp only [Zdd]
  refine Zmm (f' := fun t => 2 * m30 - (if (t == S8 "b") = true then 1 else 0)) hd0 rfl Zay hbm D (by rw [if_pos (beq_self_eq_true _)]) (fun t ht => by rw [if_neg (fun e => ht (beq_iff_eq.mp e)), Int.sub_zero]) fun H2 D2 => nx _ _ ?_
  refine w_st fun K nx => ?_
  rw [Zaj]
  dsimp only [Zaw, Zag, Zau, Zae, List.getElem?_cons_succ, v_0]
  refine get D2 hem ?_
  dsimp only [beq_iff_eq, Zb8]
  refine Zmm (f' := fre8) hd0 rfl Zay hem D2 (by decide +kernel) (fun t ht => by unfold fre8; rw [if_neg (fun e => ht (beq_iff_eq.mp e)), Int.add_zero]) fun H3 D3 => nx _ _ ?_
  have snoc : ∀ {ps : List (Str × Int)} {m : Nat} {e : Str × Int} {t : Str}, ps[m]? = some e → sAt (ps.take (m + 1)) t = sAt (ps.take m) t + (if e.1 = t then e.2 else 0) := fun {ps m e t} he => by
    rw [Zbw he]
    unfold sAt
    rw [List.map_append, List.sum_append]
    show _ + ((if e.1 = t then e.2 else 0) + 0) = _
    rw [Int.add_zero]
  refine w_st fun K nx => ?_
  rw [Zba]
  refine ⟨rfl, ?_⟩
  rw [Zae]
  show WFor _ _ (.ref l1) _ _
  have ll1 := Zbj p1
  rw [List.length_map] at ll1
  refine Zcw (xs := ts.map .ref) (by simp only [Zan]; rw [D3.ext _ _ h1]) (fun m V' H' => (∃ p5 p6, V' = [some (.ref b), some (.ref l1), some (.ref l2), some (.ref pu), some (.ref d), p5, p6]) ∧ Du H H' d pu8 (fun t => fre8 t - sAt (x.parts.take m) t)) ⟨⟨_, _, rfl⟩, D3.ext, by
    obtain ⟨ep, l, hd, hk, hv⟩ := D3.at_
    exact ⟨ep, l, hd, hk, fun s hs8 => by rw [hv s hs8, List.take_zero]; exact (Int.sub_zero _).symm⟩⟩ ?_
  clear hI I
  rintro I hI m V' H' ⟨⟨p5, p6, rfl⟩, D⟩
  refine ⟨by show H' l1 = _; rw [D.ext _ _ h1, D3.ext _ _ h1], fun hk => ?_, fun y hy => ?_⟩
  rotate_left
  · rw [List.getElem?_map, Option.map_eq_some_iff] at hy
    obtain ⟨t, ht, rfl⟩ := hy
    obtain ⟨e, he, _, htt, k1, k2⟩ := Zb3 p1 ht
    rw [List.getElem?_map, Option.map_eq_some_iff] at he
    obtain ⟨e, he, rfl⟩ := he
    have hm8 := (X.pm e (List.mem_of_getElem? he)).1
    show Zbi 2 (.ref t) H' _
    unfold Zbi
    dsimp only
    rw [D.ext _ _ htt]
    refine ⟨rfl, ?_⟩
    show wpSs _ _ _ _ _ [some (.ref b), some (.ref l1), some (.ref l2), some (.ref pu), some (.ref d), some (.str e.1), some (.int e.2)] _
    rw [Zas, Zaj]
    dsimp only [Zaw, Zae, List.getElem?_cons_succ, v_0, Zau]
    refine get D hm8 ?_
    dsimp only [Zdd]
    refine Zmm (f' := fun t => fre8 t - sAt (x.parts.take (m + 1)) t) hd0 rfl (Zgp rfl) hm8 D (by rw [snoc he, if_pos rfl]; lia) (fun t ht => by rw [snoc he, if_neg (fun q => ht q.symm), Int.add_zero]) fun H5 D5 => hI _ _ _ ⟨⟨_, _, rfl⟩, D5⟩
  rw [List.length_map, ll1] at hk
  subst hk
  rw [List.take_length] at D
  refine nx _ _ ?_
  refine w_st fun K nx => ?_
  rw [Zba]
  refine ⟨rfl, ?_⟩
  rw [Zae]
  show WFor _ _ (.ref l2) _ _
  have ll2 := Zbj p2
  rw [List.length_map] at ll2
  have D4 := D
  refine Zcw (xs := us.map .ref) (by simp only [Zan]; rw [D.ext _ _ h2]) (fun m V' H' => (∃ p5 p6, V' = [some (.ref b), some (.ref l1), some (.ref l2), some (.ref pu), some (.ref d), p5, p6]) ∧ Du H H' d pu8 (fun t => fre8 t - sAt x.parts t + sAt (x.gains.take m) t)) ⟨⟨_, _, rfl⟩, D.ext, by
    obtain ⟨ep, l, hd, hk, hv⟩ := D.at_
    exact ⟨ep, l, hd, hk, fun s hs8 => by rw [hv s hs8, List.take_zero]; exact (Int.add_zero _).symm⟩⟩ ?_
  clear hI I D
  rintro I hI m V' H' ⟨⟨p5, p6, rfl⟩, D⟩
  refine ⟨by show H' l2 = _; rw [D.ext _ _ h2, D4.ext _ _ h2], fun hk => ?_, fun y hy => ?_⟩
  rotate_left
  · rw [List.getElem?_map, Option.map_eq_some_iff] at hy
    obtain ⟨t, ht, rfl⟩ := hy
    obtain ⟨e, he, _, htt, k1, k2⟩ := Zb3 p2 ht
    rw [List.getElem?_map, Option.map_eq_some_iff] at he
    obtain ⟨e, he, rfl⟩ := he
    have hm8 := (X.gm e (List.mem_of_getElem? he)).1
    show Zbi 2 (.ref t) H' _
    unfold Zbi
    dsimp only
    rw [D.ext _ _ htt]
    refine ⟨rfl, ?_⟩
    show wpSs _ _ _ _ _ [some (.ref b), some (.ref l1), some (.ref l2), some (.ref pu), some (.ref d), some (.str e.1), some (.int e.2)] _
    rw [Zas, Zaj]
    dsimp only [Zaw, Zae, List.getElem?_cons_succ, v_0, Zau]
    refine get D hm8 ?_
    dsimp only [Zb8]
    refine Zmm (f' := fun t => fre8 t - sAt x.parts t + sAt (x.gains.take (m + 1)) t) hd0 rfl (Zgp rfl) hm8 D (by rw [snoc he, if_pos rfl]; lia) (fun t ht => by rw [snoc he, if_neg (fun q => ht q.symm), Int.add_zero]) fun H5 D5 => hI _ _ _ ⟨⟨_, _, rfl⟩, D5⟩
  rw [List.length_map, ll2] at hk
  subst hk
  rw [List.take_length] at D
  have D : Du H H' d pu8 (pd8 x) := D
  refine nx _ _ ?_
  refine w_st fun K nx => ?_
  have hb' := D.ext _ _ hb
  rw [Zax, Zak]
  refine Zbf hM (by decide) (by decide) hb' rfl ?_
  rw [Zaf]
  refine Zlw G U8 rfl rfl rfl rfl rfl rfl hb' (Zka X _) (Ztq X) fun z g hz hg => ?_
  have hgc : g = [S8 "cleo"] := grt1 hg (Zwh X) (by rw [nd_l X, Zwn X]; intro o ho; rw [hn o ho]; exact .head _)
  subst hgc
  refine Zxr Zay _ _ _ .refl fun H7 z7 E7 hz7 => ?_
  rw [Znm]
  refine Zex (l := [S8 "cleo"]) (l' := [S8 "cleo"]) (E7 _ _ Zad) hz7 ?_
  rw [decide_eq_true rfl, Zai]
  show K _ H7
  refine nx _ _ ?_
  have hbz : b ≠ z := fun e => by rw [← e, hb'] at hz; cases hz
  have hb7 : H7 b = some (.book (Zcq [S8 "cleo"] (bm x x.parts.length))) := E7 _ _ (by rw [Zab hbz]; exact Zad)
  have keep : ∀ {a : Addr} {o : AObj}, a ≠ b → H' a = some o → H7 a = some o := fun {a o} hab ha => E7 _ _ (by rw [Zab (fun e => by rw [e, hz] at ha; cases ha), Zab hab]; exact ha)
  obtain ⟨hE', ep, l, hd, hk, hv⟩ := D
  have hd7 : H7 d = some (.dict ep (dI l)) := keep (fun e => by rw [e, hb'] at hd; cases hd) hd
  have hp7 : H7 pu = some (.list (txs pu8)) := keep (fun e => by rw [e, hb] at hpu; cases hpu) (hE' _ _ hpu)
  obtain ⟨sk, sv⟩ := Zw7 X
  rw [Zas, Za8, Zak, Zbd]
  refine ⟨rfl, ?_⟩
  rw [Zae]
  show Zkj _ _ (.ref pu) _
  have vals : ∀ {f : AV → Option AV}, (∀ s ∈ pu8, f (.str s) = some (.int (pd8 x s))) → (txs pu8).filterMap f = (pu8.map fun s => AV.int (pd8 x s)) := fun {f} h => by
    unfold txs
    rw [List.filterMap_map]
    have : ∀ {ks : List Str}, (∀ s ∈ ks, s ∈ pu8) → ks.filterMap (f ∘ AV.str) = ks.map fun s => AV.int (pd8 x s) := by
      intro ks
      induction ks with
      | nil => intro _; rfl
      | cons s r ih =>
        intro hs8
        rw [List.filterMap_cons, show (f ∘ AV.str) s = some (.int (pd8 x s)) from h s (hs8 s (.head _)), List.map_cons, ih fun t ht => hs8 t (.tail _ ht)]
    exact this fun _ h => h
  refine Zd9 (xs := txs pu8) (by simp only [Zan, hp7]) (by decide) (fun v => some (.int (pd8 x (Zaz v)))) (fun y hy H8 E8 nx8 hnx => ?_) fun a8 H8 E8 ha8 => ?_
  · obtain ⟨s, hs8, rfl⟩ := List.mem_map.mp hy
    rw [if_neg (by decide), Zbp, if_pos rfl]
    refine Zbf hM (by decide) (by decide) (E8 _ _ hb7) rfl ?_
    rw [Zac, Zae]
    show wpXs _ [] _ _ _ _
    rw [Zaf]
    refine Zmh G U8.a (E8 _ _ hb7) (Zga s hs8).kn ?_
    rw [if_pos (show Zbn _ (.str s) = true from by show (isNm s && hs _ s) = true; rw [Zob s hs8, Zf1 sk, decide_eq_true hs8]; rfl)]
    have := hnx H8 .refl
    rw [show Zda (Zcq [S8 "cleo"] (bm x x.parts.length)) (.str s) = pd8 x s from sv s hs8]
    exact this
  rw [vals fun s _ => rfl]
  have E9 := E8.new (o := .list (pu8.map fun s => AV.int (pd8 x s))) ha8
  have ha9 : up H8 a8 (.list (pu8.map fun s => AV.int (pd8 x s))) a8 = some (.list (pu8.map fun s => AV.int (pd8 x s))) := Zad
  generalize up H8 a8 (.list (pu8.map fun s => AV.int (pd8 x s))) = H9 at E9 ha9
  rw [Zbd]
  refine ⟨rfl, ?_⟩
  rw [Zae]
  show Zkj _ _ (.ref pu) _
  refine Zd9 (xs := txs pu8) (by simp only [Zan, E9 _ _ hp7]) (by decide) (fun v => some (.int (pd8 x (Zaz v)))) (fun y hy H10 E10 nx10 hnx => ?_) fun a10 H10 E10 ha10 => ?_
  · obtain ⟨s, hs8, rfl⟩ := List.mem_map.mp hy
    rw [if_neg (by decide), Zbp, if_pos rfl, Zau, Zae]
    show wpX _ (.var 7) _ _ _ _
    rw [Zae]
    show wsub (.ref d) (.str s) _ _
    refine dget (E10 _ _ (E9 _ _ hd7)) (by rw [Zf1 hk]; exact decide_eq_true hs8) ?_
    have := hnx H10 .refl
    rw [hv s hs8]
    exact this
  rw [vals fun s _ => rfl]
  rw [Zr7]
  refine Zqn (l := pu8.map fun s => AV.int (pd8 x s)) (fun v hv => by obtain ⟨s, _, rfl⟩ := List.mem_map.mp hv; exact Kv.int) (Ext.refl.new ha10 _ _ (E10 _ _ ha9)) Zad (q _)
end
end Mine
end
section
open PySem PySem.W PyProof.Rows PySem.Spec PySem.SeqAt PySem.Calls
namespace Mine
open L08
set_option tactic.hygienic true in
theorem Zwr {H : Zaa} {v last : AV} {pL gL : List (AV × AV)} {nL : List AV} {B' : Bk} (hv : Nm8 H v) (h : Zdl Bf8 v pL gL nL last = .ok B') : ∃ x, X8 x ∧ B' = bm x 0 ∧ (x.parts.map fun e => (AV.str e.1, AV.int e.2)) = pL ∧ (x.gains.map fun e => (AV.str e.1, AV.int e.2)) = gL ∧ 1 ≤ x.parts.length ∧ nL = txs x.needs := by
  unfold Zdl at h
  cases hnb : Zbz v with
  | false => rw [hnb, if_neg Bool.false_ne_true] at h; cases h
  | true =>
  rw [hnb, if_pos rfl] at h
  have h4 := hv.four
  rw [hnb] at h4
  obtain ⟨k, rfl⟩ : ∃ k, v = .str k := ⟨_, Zcs hnb⟩
  have h4 : k ∈ four8 := of_decide_eq_true h4
  have hkk : Zaz (.str k) = k := rfl
  rw [hkk, Zfi, is8.names] at h
  by_cases ht : k ∈ [S8 "ann", S8 "bob", S8 "dan"]
  · rw [decide_eq_true ht, if_pos rfl] at h; cases h
  rw [decide_eq_false ht, if_neg Bool.false_ne_true] at h
  have hk : k = S8 "cleo" := by
    simp only [four8, List.mem_cons, List.not_mem_nil, or_false] at h4 ht
    rcases h4 with e | e | e | e
    · exact absurd (.inl e) ht
    · exact absurd (.inr (.inl e)) ht
    · exact absurd (.inr (.inr e)) ht
    · exact e
  subst hk
  cases hp : Zcf Bf8 pL with
  | error e => rw [hp] at h; cases h
  | ok ps =>
  rw [hp] at h
  cases hg : Zcf Bf8 gL with
  | error e => rw [hg] at h; cases h
  | ok gs =>
  rw [hg] at h
  dsimp only at h
  split at h
  · cases h
  cases hn : Zd3 Bf8 (S8 "cleo") nL with
  | error e => rw [hn] at h; cases h
  | ok u =>
  rw [hn] at h
  dsimp only at h
  split at h
  · cases h
    have p1 := Zjh is8 hp
    have p2 := Zjh is8 hg
    have hnl : nL.length ≤ 8 ∧ nL = txs (nL.map Zaz) := by
      unfold Zd3 at hn
      split at hn
      · exact ⟨by assumption, Zh9 hn⟩
      · cases hn
    exact ⟨⟨S8 "cleo", ps, gs, nL.map Zaz, Zc9 last, .opn, []⟩, ⟨rfl, rfl, p1.nd, p1.mem, p1.len.2, p2.mem, p2.len.2, by rw [List.length_map]; exact hnl.1, rfl⟩, rfl, p1.is, p2.is, p1.len.1, hnl.2⟩
  · cases h
section
variable {c : Cx} (G : Gd c L08.P) {n : Nat} {V : VV} {Q : AV → Zaa → Prop} {E : String → Zaa → Prop} {H : Zaa} {b pu sp : Addr}
include G
theorem Zxi {ns : List Int} {K : VV → Zaa → Prop} {QR : AV → Zaa → Prop} {EE : String → VV → Zaa → Prop} (hs : H sp = some (.script ns)) (q : ∀ H' b pu v3 v4, H' sp = some (.script ns) → H' b = some (.book Bf8) → H' pu = some (.list (txs pu8)) → wpSs ⟨c, n + 5, true⟩ (f_law.body.drop 7) K QR EE [some (.ref sp), some (.ref b), some (.ref pu), v3, v4, none, none, none, none] H') :
    wpSs ⟨c, n + 5, true⟩ f_law.body K QR EE [some (.ref sp), none, none, none, none, none, none, none, none] H := by
  have hM : c.P.meths = BK.meths := by rw [G.hP]; rfl
  refine w_st fun K nx => ?_
  dsimp only [Zaj]
  refine Zrf (c := c) rfl G U8.a ⟨_, rfl⟩ fun b hb0 => ⟨show 1 < 9 by decide, nx _ _ ?_⟩
  have E0 := Ext.refl.new (o := .book ⟨0, [], [], []⟩) hb0
  have hb1 : up H b (.book ⟨0, [], [], []⟩) b = some (.book (b8 0)) := Zad
  generalize up H b (.book ⟨0, [], [], []⟩) = H1 at E0 hb1
  refine w_st fun K nx => ?_
  dsimp only [Zaj, Zam, Zac, Zag, Zaf]
  intro pu hpu0
  refine ⟨show 2 < 9 by decide, nx _ _ ?_⟩
  have E1 := E0.new (o := .list (txs pu8)) hpu0
  have hpu1 : up H1 pu (.list (txs pu8)) pu = some (.list (txs pu8)) := Zad
  have hb2 : up H1 pu (.list (txs pu8)) b = some (.book (b8 0)) := Zgj hb1 hpu0
  show wpSs _ _ _ _ _ [some (.ref sp), some (.ref b), some (.ref pu), none, none, none, none, none, none] (up H1 pu (.list (txs pu8)))
  generalize up H1 pu (.list (txs pu8)) = H2 at E1 hpu1 hb2
  have hs2 := E1 _ _ hs
  have npb : pu ≠ b := fun e => by rw [e, hb2] at hpu1; cases hpu1
  have nsb : sp ≠ b := fun e => by rw [e, hb2] at hs2; cases hs2
  refine w_st fun K nx => ?_
  refine Zxq G hb2 hpu1 fun H3 v3 v4 k3 hb3 => nx _ _ ?_
  have hs3 := k3 _ _ nsb hs2
  have hp3 := k3 _ _ npb hpu1
  refine w_st fun K nx => ?_
  dsimp only [Zao]
  refine Zbf hM (by decide) (by decide) hb3 rfl ?_
  dsimp only [Zac, Zag, Zaf]
  refine Zxm G U8 rfl rfl rfl rfl rfl hb3 (Zgc o_9) (k8 (by decide)) ?_
  rw [Zwx]
  intro z4 hz4
  refine nx _ _ ?_
  have hbz4 : b ≠ z4 := fun e => by rw [← e, hb3] at hz4; cases hz4
  have k4 : Kb b H3 (up (up H3 b (.book Boff)) z4 (.list (txs [S8 "bob"]))) := Kb.up.trans (.ext (Ext.refl.new (by rw [Zab hbz4.symm]; exact hz4)))
  have hb4 : up (up H3 b (.book Boff)) z4 (.list (txs [S8 "bob"])) b = some (.book Boff) := by rw [Zab hbz4, Zad]
  show wpSs _ _ _ _ _ _ (up (up H3 b (.book Boff)) z4 (.list (txs [S8 "bob"])))
  generalize up (up H3 b (.book Boff)) z4 (.list (txs [S8 "bob"])) = H4 at k4 hb4
  refine w_st fun K nx => ?_
  dsimp only [Zao]
  refine Zbf hM (by decide) (by decide) hb4 rfl ?_
  dsimp only [Zac, Zag, Zaf]
  refine Zqc G U8 rfl rfl hb4 (k8 (by decide)) (k8 (by decide)) (Zgc Zxn) ?_
  rw [Zjp (B := Boff) x_as]
  refine nx _ _ ?_
  have k5 : Kb b H3 (up H4 b (.book Bas)) := k4.trans .up
  have hb5 : up H4 b (.book Bas) b = some (.book Bas) := Zad
  show wpSs _ _ _ _ _ _ (up H4 b (.book Bas))
  generalize up H4 b (.book Bas) = H5 at k5 hb5
  refine w_st fun K nx => ?_
  dsimp only [Zao]
  refine Zbf hM (by decide) (by decide) hb5 rfl ?_
  dsimp only [Zaf]
  refine Zlw G U8 rfl rfl rfl rfl rfl rfl hb5 (Zgc o_as) n_as fun z6 g hz6 hg => nx _ _ ?_
  have hgd : g = [S8 "dan"] := grt1 hg f_as (by rw [d_as]; intro o ho; cases ho)
  subst hgd
  have hbz6 : b ≠ z6 := fun e => by rw [← e, hb5] at hz6; cases hz6
  have k6 : Kb b H3 (up (up H5 b (.book Bse)) z6 (.list (txs [S8 "dan"]))) := (k5.trans .up).trans (.ext (Ext.refl.new (by rw [Zab hbz6.symm]; exact hz6)))
  have hb6 : up (up H5 b (.book Bse)) z6 (.list (txs [S8 "dan"])) b = some (.book Bse) := by rw [Zab hbz6, Zad]
  show wpSs _ _ _ _ _ _ (up (up H5 b (.book Bse)) z6 (.list (txs [S8 "dan"])))
  generalize up (up H5 b (.book Bse)) z6 (.list (txs [S8 "dan"])) = H6 at k6 hb6
  refine w_st fun K nx => ?_
  dsimp only [Zao]
  refine Zbf hM (by decide) (by decide) hb6 rfl ?_
  dsimp only [Zac, Zag, Zaf]
  refine Zvb G U8 rfl rfl rfl rfl rfl hb6 (Zgc o_se) Kv.int ?_
  rw [Zuo]
  intro z7 hz7
  refine nx _ _ ?_
  have hbz7 : b ≠ z7 := fun e => by rw [← e, hb6] at hz7; cases hz7
  have k7 : Kb b H3 (up (up H6 b (.book Bf8)) z7 (.list (txs []))) := (k6.trans .up).trans (.ext (Ext.refl.new (by rw [Zab hbz7.symm]; exact hz7)))
  exact q _ b pu v3 v4 (k7 _ _ nsb hs3) (by rw [Zab hbz7, Zad]) (k7 _ _ npb hp3)
end
end Mine
end
section
open PySem PySem.W PyProof.Rows PySem.Spec PySem.SeqAt PySem.Calls
namespace Mine
open L08
structure Kp8 (H : Zaa) (b pu kk k1 k2 k3 : Addr) (ts us : List Addr) (pL gL : List (AV × AV)) (nL : List AV) (B : Bk) : Prop where
  b : H b = some (.book B)
  pu : H pu = some (.list (txs pu8))
  kk : H kk = some (.list [.ref k1, .ref k2, .ref k3])
  k1 : H k1 = some (.list (ts.map .ref))
  p1 : pairsH H ts pL
  k2 : H k2 = some (.list (us.map .ref))
  p2 : pairsH H us gL
  k3 : H k3 = some (.list nL)
theorem Kp8.up {H : Zaa} {b pu kk k1 k2 k3 : Addr} {ts us : List Addr} {pL gL : List (AV × AV)} {nL : List AV} {B : Bk} (k : Kp8 H b pu kk k1 k2 k3 ts us pL gL nL B) {z : Addr} {xs : List AV} {o : AObj} (hz : H z = some (.list xs)) (n1 : z ≠ pu) (n2 : z ≠ kk) (n3 : z ≠ k1) (n4 : z ≠ k2) (n5 : z ≠ k3) : Kp8 (Mine.up H z o) b pu kk k1 k2 k3 ts us pL gL nL B :=
  ⟨by rw [Zab (fun e => by have := k.b; rw [e, hz] at this; cases this)]; exact k.b, by rw [Zab n1.symm]; exact k.pu, by rw [Zab n2.symm]; exact k.kk, by rw [Zab n3.symm]; exact k.k1, Zee hz k.p1, by rw [Zab n4.symm]; exact k.k2, Zee hz k.p2, by rw [Zab n5.symm]; exact k.k3⟩
theorem Kp8.ext {H H' : Zaa} {b pu kk k1 k2 k3 : Addr} {ts us : List Addr} {pL gL : List (AV × AV)} {nL : List AV} {B : Bk} (k : Kp8 H b pu kk k1 k2 k3 ts us pL gL nL B) (e : Ext H H') : Kp8 H' b pu kk k1 k2 k3 ts us pL gL nL B :=
  ⟨e _ _ k.b, e _ _ k.pu, e _ _ k.kk, e _ _ k.k1, k.p1.ext e, e _ _ k.k2, k.p2.ext e, e _ _ k.k3⟩
theorem Zef {H H' : Zaa} {b : Addr} {B : Bk} (hb : H b = some (.book B)) (k : Kb b H H') : ∀ {ts : List Addr} {l : List (AV × AV)}, pairsH H ts l → pairsH H' ts l
  | [], [], _ => trivial
  | t :: _, _ :: _, h => ⟨⟨rfl, k _ _ (fun e => by have := h.1.2.1; rw [e, hb] at this; cases this) h.1.2.1, h.1.2.2⟩, Zef hb k h.2⟩
  | [], _ :: _, h => h.elim
  | _ :: _, [], h => h.elim
theorem eqv3 {pL gL : List (AV × AV)} {nL : List AV} : PyData.eqv (.list [.list (pL.map dP2), .list (gL.map dP2), .list (nL.map dV)]) (.list [.list (pL.map dP2), .list (gL.map dP2), .list (nL.map dV)]) = true := by
  show (PyData.eqvAll _ _ && (PyData.eqvAll _ _ && (PyData.eqvAll _ _ && true))) = true
  rw [Zlj, Zlj, Zli]; rfl
theorem ok3 {pL gL : List (AV × AV)} {nL : List AV} : okD (.list [.list (pL.map dP2), .list (gL.map dP2), .list (nL.map dV)]) := by
  refine ⟨?_, ?_⟩
  · show (Zdi _ && (Zdi _ && (Zdi _ && true))) = true
    rw [Zgv, Zgv, Zfm]; rfl
  · have h1 := Zfo (l := pL)
    have h2 := Zfo (l := gL)
    have h3 := Zfn (l := nL)
    show max (PyData.depthAll (pL.map dP2) + 1) (max (PyData.depthAll (gL.map dP2) + 1) (max (PyData.depthAll (nL.map dV) + 1) 0)) + 1 ≤ 64
    lia
section
variable {c : Cx} (G : Gd c L08.P) {n : Nat} {V : VV} {Q : AV → Zaa → Prop} {E : String → Zaa → Prop} {H : Zaa} {b pu sp r kk k1 k2 k3 pl gl nl : Addr} {v last : AV} {ts us : List Addr} {pL gL : List (AV × AV)} {nL : List AV}
include G
theorem mid8 {v3 v4 : Option AV} {K : VV → Zaa → Prop} {QR : AV → Zaa → Prop} {EE : String → VV → Zaa → Prop} {Bx : Bk} {nm : List Str} {dv : Str} (R : Row8 H r v pl gl nl ts us pL gL nL last) (k : Kp8 H b pu kk k1 k2 k3 ts us pL gL nL Bf8)
    (hne : ∀ z ∈ [pl, gl, nl], z ≠ pu ∧ z ≠ kk ∧ z ≠ k1 ∧ z ≠ k2 ∧ z ≠ k3) (hrn : ∀ z ∈ [pl, gl, nl], r ≠ z) (hgl : gl ≠ pl) (hnl : nl ≠ pl) (hng : nl ≠ gl)
    (hB : Zkm Bf8 (Zdl Bf8 v pL gL nL last) = Bx) (hd : due8 v pL gL nL last = dv) (hnm : (Bx.pacts.map fun e => AV.str e.name) = txs nm) (hlen : Bx.pacts.length ≤ 100) (hsl : Zfc (txs four8) none (some (3 + (if (dv == S8 "") = true then 1 else 0))) none = txs nm)
    (q : ∀ H', Kp8 H' b pu kk k1 k2 k3 ts us pL gL nL Bx → wpSs ⟨c, n + 5, true⟩ (f_law.body.drop 15) K QR EE [some (.ref sp), some (.ref b), some (.ref pu), v3, v4, some (.ref r), some (.str dv), some (.ref kk), none] H') :
    wpSs ⟨c, n + 5, true⟩ (f_law.body.drop 10) K QR EE [some (.ref sp), some (.ref b), some (.ref pu), v3, v4, some (.ref r), some (.str dv), some (.ref kk), none] H := by
  have hM : c.P.meths = BK.meths := by rw [G.hP]; rfl
  refine w_st fun K nx => ?_
  rw [Zax, x_ao, Zat, Zak, Zal, Zac, Zae]
  show wpXs _ [.var 5] _ _ _ _
  dsimp only [Zac, Zae]
  show wpXs _ [] _ _ _ _
  dsimp only [Zaf]
  refine Zs4 G R k.b (Zgc o_f8) fun H6 k6 hb6 => ?_
  rw [hB] at hb6
  rw [Zls is8 R.v, hd]
  show wcmp .NotEq (.str dv) (.str dv) _ _
  dsimp only [Zdp, Zai]; rw [show (dv != dv) = false from bne_self_eq_false _, if_pos rfl, Za5, Zak]
  have nb : ∀ {a : Addr} {xs : List AV}, H a = some (.list xs) → a ≠ b := fun {a xs} h e => by rw [e, k.b] at h; cases h
  have K6 : Kp8 H6 b pu kk k1 k2 k3 ts us pL gL nL Bx := ⟨hb6, k6 _ _ (nb k.pu) k.pu, k6 _ _ (nb k.kk) k.kk, k6 _ _ (nb k.k1) k.k1, Zef k.b k6 k.p1, k6 _ _ (nb k.k2) k.k2, Zef k.b k6 k.p2, k6 _ _ (nb k.k3) k.k3⟩
  have r6 := k6 _ _ (nb R.r) R.r
  have pl6 := k6 _ _ (nb R.p) R.p
  have gl6 := k6 _ _ (nb R.g) R.g
  have nl6 := k6 _ _ (nb R.n) R.n
  refine Zbf hM (by decide) (by decide) hb6 rfl ?_
  dsimp only [Zaf]
  refine Znu G U8.a hb6 (Nat.le_trans hlen (by decide)) fun z7 hz7 => ?_
  rw [hnm]
  have E7 := Ext.refl.new (o := .list (txs nm)) hz7
  have hz71 : Mine.up H6 z7 (.list (txs nm)) z7 = some (.list (txs nm)) := Zad
  generalize Mine.up H6 z7 (.list (txs nm)) = H7 at E7 hz71
  dsimp only [Zav]
  refine ld4 Zay Zay Zay Zay _ _ _ .refl fun H8 z8 E8 hz8 => ?_
  dsimp only [Zb7, Zbs]
  dsimp only [Zaw, Zar, Zac, Zaf, Zak, Zag, Zae, List.getElem?_cons_succ, v_0, Zci]
  dsimp only [Zoh, Zb8]
  show Zgw (.ref z8) none (some (.int (3 + (if (dv == S8 "") = true then 1 else 0)))) none _ _
  dsimp only [Zsh]; rw [hz8]
  refine ⟨none, _, none, rfl, rfl, rfl, by simp, by decide, fun z9 hz9 => ?_⟩
  rw [show Zfc [AV.str (S8 "ann"), .str (S8 "bob"), .str (S8 "dan"), .str (S8 "cleo")] none (some (3 + (if (dv == S8 "") = true then 1 else 0))) none = txs nm from hsl]
  have E9 := Ext.refl.new (o := .list (txs nm)) hz9
  have E79 := (E7.trans E8).trans E9
  show wcmp .NotEq (.ref z7) (.ref z9) _ _
  dsimp only [Znm]
  refine Zex (l := nm) (l' := nm) (E9 _ _ (E8 _ _ hz71)) Zad ?_
  rw [decide_eq_true rfl, Zai]
  show K _ (Mine.up H8 z9 (.list (txs nm)))
  generalize Mine.up H8 z9 (.list (txs nm)) = H9 at E79
  refine nx _ _ ?_
  have K9 := K6.ext E79
  have r9 := E79 _ _ r6
  have pl9 := E79 _ _ pl6
  have gl9 := E79 _ _ gl6
  have nl9 := E79 _ _ nl6
  refine w_st fun K nx => ?_
  dsimp only [Zax, Zak, Zav, Zae]
  show wpO _ (some (.lit (.int 1))) _ _ _ _
  dsimp only [Zbs, Zag, Zbs, Zag, Zb7]
  show Zgw (.ref r) (some (.int 1)) (some (.int 4)) none _ _
  dsimp only [Zsh]; rw [r9]
  refine ⟨some 1, some 4, none, rfl, rfl, rfl, by simp, by show 5 ≤ sizeLine; decide, fun z10 hz10 => ?_⟩
  have E10 := Ext.refl.new (o := .list (Zfc [v, .ref pl, .ref gl, .ref nl, last] (some 1) (some 4) none)) hz10
  have hz101 : Mine.up H9 z10 (.list (Zfc [v, .ref pl, .ref gl, .ref nl, last] (some 1) (some 4) none)) z10 = some (.list [.ref pl, .ref gl, .ref nl]) := Zad
  generalize Mine.up H9 z10 (.list (Zfc [v, .ref pl, .ref gl, .ref nl, last] (some 1) (some 4) none)) = H10 at E10 hz101
  have K10 := K9.ext E10
  show wcmp .NotEq (.ref z10) (.ref kk) _ _
  dsimp only [Znm]
  have pl10 := E10 _ _ pl9
  have gl10 := E10 _ _ gl9
  have nl10 := E10 _ _ nl9
  have kn : ∀ w ∈ nL, Kv w := fun w hw => (R.nn w hw).kv
  show weq true (.ref z10) (.ref kk) _ _
  simp only [weq, hz101, K10.kk]
  refine ⟨_, _, .list hz101 (.cons (.list pl10 (Zen K10.p1)) (.cons (.list gl10 (Zen K10.p2)) (.cons (.list nl10 (Zhz kn)) .nil))), .list K10.kk (.cons (.list K10.k1 (Zen K10.p1)) (.cons (.list K10.k2 (Zen K10.p2)) (.cons (.list K10.k3 (Zhz kn)) .nil))), ok3, ok3, ?_⟩
  rw [eqv3]
  show K _ H10
  refine nx _ _ ?_
  have r10 := E10 _ _ r9
  have n1 := hne pl (.head _)
  have n2 := hne gl (.tail _ (.head _))
  have n3 := hne nl (.tail _ (.tail _ (.head _)))
  have rAt : ∀ {H' : Zaa} {j : Nat} {w : AV} {Q' : AV → Zaa → Prop} {E' : String → Zaa → Prop}, H' r = some (.list [v, .ref pl, .ref gl, .ref nl, last]) → [v, .ref pl, .ref gl, .ref nl, last][j]? = some w → Q' w H' → wpX ⟨c, n + 5, true⟩ (.sub (.var 5) (.lit (.int j))) [some (.ref sp), some (.ref b), some (.ref pu), v3, v4, some (.ref r), some (.str dv), some (.ref kk), none] Q' E' H' := fun {H' j w Q' E'} hr hj hq => by
    dsimp only [Zau, Zae]
    show wpX _ (.lit (.int j)) _ _ _ _
    dsimp only [Zag]
    exact Zmt hr hj (show 5 ≤ 1000 by decide) hq
  refine w_st fun K nx => ?_
  dsimp only [Zao, x_bm]
  refine rAt (j := 1) r10 rfl ⟨?_, ?_⟩
  · show match H10 pl with | some (.list _) => _ | some (.dict _ _) => _ | _ => False
    rw [pl10]; exact .inr (.inl rfl)
  dsimp only [Zaf, Zvv]; rw [pl10]
  refine ⟨by rw [List.length_map, Zbj R.pp]; exact Nat.le_trans R.l1 (by decide), nx _ _ ?_⟩
  have K11 : Kp8 (Mine.up H10 pl (.list [])) b pu kk k1 k2 k3 ts us pL gL nL Bx := K10.up pl10 n1.1 n1.2.1 n1.2.2.1 n1.2.2.2.1 n1.2.2.2.2
  have r11 : Mine.up H10 pl (.list []) r = some (.list [v, .ref pl, .ref gl, .ref nl, last]) := by rw [Zab (hrn pl (.head _))]; exact r10
  have gl11 : Mine.up H10 pl (.list []) gl = some (.list (us.map .ref)) := by rw [Zab hgl]; exact gl10
  have nl11 : Mine.up H10 pl (.list []) nl = some (.list nL) := by rw [Zab hnl]; exact nl10
  generalize Mine.up H10 pl (.list []) = H11 at K11 r11 gl11 nl11
  refine w_st fun K nx => ?_
  dsimp only [Zao, x_bm]
  refine rAt (j := 2) r11 rfl ⟨?_, ?_⟩
  · show match H11 gl with | some (.list _) => _ | some (.dict _ _) => _ | _ => False
    rw [gl11]; exact .inl rfl
  dsimp only [Zac, Zaf, Zbg, Zag]
  intro t12 ht12
  have E12 := Ext.refl.new (o := .tuple [.str (S8 "b"), .int 1]) ht12
  refine Zb5 (E12 _ _ gl11) (by rw [List.length_map, Zbj R.gg]; exact Nat.le_trans R.l2 (by decide)) (nx _ _ ?_)
  have K12 := (K11.ext E12).up (o := .list (us.map .ref ++ [.ref t12])) (E12 _ _ gl11) n2.1 n2.2.1 n2.2.2.1 n2.2.2.2.1 n2.2.2.2.2
  have r12 : Mine.up (Mine.up H11 t12 (.tuple [.str (S8 "b"), .int 1])) gl (.list (us.map .ref ++ [.ref t12])) r = some (.list [v, .ref pl, .ref gl, .ref nl, last]) := by rw [Zab (hrn gl (.tail _ (.head _)))]; exact E12 _ _ r11
  have nl12 : Mine.up (Mine.up H11 t12 (.tuple [.str (S8 "b"), .int 1])) gl (.list (us.map .ref ++ [.ref t12])) nl = some (.list nL) := by rw [Zab hng]; exact E12 _ _ nl11
  show wpSs _ _ _ _ _ _ (Mine.up (Mine.up H11 t12 (.tuple [.str (S8 "b"), .int 1])) gl (.list (us.map .ref ++ [.ref t12])))
  generalize Mine.up (Mine.up H11 t12 (.tuple [.str (S8 "b"), .int 1])) gl (.list (us.map .ref ++ [.ref t12])) = H12 at K12 r12 nl12
  refine w_st fun K nx => ?_
  dsimp only [Zao, x_bm]
  refine rAt (j := 3) r12 rfl ⟨?_, ?_⟩
  · show match H12 nl with | some (.list _) => _ | some (.dict _ _) => _ | _ => False
    rw [nl12]; exact .inl rfl
  dsimp only [Zac, Zag, Zaf]
  refine Zb5 nl12 (Nat.le_trans R.l3 (by decide)) (nx _ _ ?_)
  exact q _ (K12.up nl12 n3.1 n3.2.1 n3.2.2.1 n3.2.2.2.1 n3.2.2.2.2)
end
end Mine
end
section
open PySem PySem.W PyProof.Rows PySem.Spec PySem.SeqAt PySem.Calls
namespace Mine
open L08
theorem Kp8.book {H : Zaa} {b pu kk k1 k2 k3 : Addr} {ts us : List Addr} {pL gL : List (AV × AV)} {nL : List AV} {B B' : Bk} (k : Kp8 H b pu kk k1 k2 k3 ts us pL gL nL B) : Kp8 (Mine.up H b (.book B')) b pu kk k1 k2 k3 ts us pL gL nL B' := by
  have nb : ∀ {a : Addr} {xs : List AV}, H a = some (.list xs) → a ≠ b := fun {a xs} h e => by rw [e, k.b] at h; cases h
  have kb : Kb b H (Mine.up H b (.book B')) := .up
  exact ⟨Zad, kb _ _ (nb k.pu) k.pu, kb _ _ (nb k.kk) k.kk, kb _ _ (nb k.k1) k.k1, Zef k.b kb k.p1, kb _ _ (nb k.k2) k.k2, Zef k.b kb k.p2, kb _ _ (nb k.k3) k.k3⟩
theorem Zsy {Q : AV → Zaa → Prop} {H : Zaa} {a : AV} {d : Bool} : wcmp .IsNot a (.bool d) Q H = Q (.bool (a != .bool d)) H := rfl
noncomputable def fst2 (H : Zaa) : AV → Option AV
  | .ref t => (match H t with | some (.tuple [u, _]) => some u | _ => none)
  | _ => none
theorem Zmf {H : Zaa} {t : Addr} {u w : AV} (h : H t = some (.tuple [u, w])) : fst2 H (.ref t) = some u := by
  show (match H t with | some (.tuple [u, _]) => some u | _ => none) = _
  rw [h]
theorem Zmg {H : Zaa} : ∀ {ts : List Addr} {l : List (AV × AV)}, pairsH H ts l → (ts.map AV.ref).filterMap (fst2 H) = l.map (·.1)
  | [], [], _ => rfl
  | t :: ts, e :: l, h => by rw [List.map_cons, List.filterMap_cons, Zmf h.1.2.1, Zmg h.2]; rfl
  | [], _ :: _, h => h.elim
  | _ :: _, [], h => h.elim
section
variable {c : Cx} (G : Gd c L08.P) {n : Nat} {V : VV} {Q : AV → Zaa → Prop} {E : String → Zaa → Prop} {H : Zaa} {b pu sp r kk k1 k2 k3 pl gl nl : Addr} {v last : AV} {ts us : List Addr} {pL gL : List (AV × AV)} {nL : List AV}
include G
theorem endA {v3 v4 : Option AV} {QN : VV → Zaa → Prop} {EE : String → VV → Zaa → Prop} {dv : Str} (k : Kp8 H b pu kk k1 k2 k3 ts us pL gL nL Bf8) (hd : dv ≠ S8 "") (q : ∀ H', Q (.bool true) H') :
    wpSs ⟨c, n + 5, true⟩ (f_law.body.drop 15) QN Q EE [some (.ref sp), some (.ref b), some (.ref pu), v3, v4, some (.ref r), some (.str dv), some (.ref kk), none] H := by
  refine w_st fun K nx => ?_
  dsimp only [Zax, Zak, Zae]
  show wpX _ (.lit (.str (S8 ""))) _ _ _ _
  dsimp only [Zag]
  show wcmp .NotEq (.str dv) (.str (S8 "")) _ _
  refine Eq.mpr (Zdp) (Eq.mpr (Zai) (Eq.mpr (if_pos (bne_iff_ne.mpr hd)) (Eq.mpr (Zas) (Eq.mpr (Za8) (Eq.mpr (Zal) (Eq.mpr (Zac) (Eq.mpr (Zae) ?_)))))))
  show wpXs _ [.var 2] _ _ _ _
  dsimp only [Zac, Zae]
  show wpXs _ [] _ _ _ _
  dsimp only [Zaf]
  exact Zmx G k.b k.pu q
theorem endB {v3 v4 : Option AV} {QN : VV → Zaa → Prop} {EE : String → VV → Zaa → Prop} {x : Pc} (X : X8 x) (h1 : 1 ≤ x.parts.length) (hp : (x.parts.map fun e => (AV.str e.1, AV.int e.2)) = pL) (hg : (x.gains.map fun e => (AV.str e.1, AV.int e.2)) = gL) (hn : nL = txs x.needs) (k : Kp8 H b pu kk k1 k2 k3 ts us pL gL nL (bm x 0)) (q : ∀ H', Q (.bool true) H') :
    wpSs ⟨c, n + 5, true⟩ (f_law.body.drop 15) QN Q EE [some (.ref sp), some (.ref b), some (.ref pu), v3, v4, some (.ref r), some (.str (S8 "")), some (.ref kk), none] H := by
  have hM : c.P.meths = BK.meths := by rw [G.hP]; rfl
  have kc : Kv (.str (S8 "cleo")) := k8 (by decide)
  refine w_st fun K nx => ?_
  dsimp only [Zax, Zak, Zae]
  show wpX _ (.lit (.str (S8 ""))) _ _ _ _
  dsimp only [Zag]
  show wcmp .NotEq (.str (S8 "")) (.str (S8 "")) _ _
  dsimp only [Zdp, Zai]; rw [if_neg (by decide)]
  refine nx _ _ ?_
  refine w_st fun K nx => ?_
  rw [Zax, x_ao, Zat, Zak]
  refine Zbf hM (by decide) (by decide) k.b rfl ?_
  rw [Zac, Zag, Zaf]
  refine Zko G U8 rfl k.b kc ?_
  rw [bm_p X 0]
  show wpX _ (.lit (.str (S8 "open"))) _ _ _ _
  dsimp only [Zag]; rw [show (xm x 0).state = .opn from X.st]
  show wcmp .NotEq (.str (S8 "open")) (.str (S8 "open")) _ _
  dsimp only [Zdp, Zai]; rw [if_pos (by decide), Zat, Zak]
  refine Zbf hM (by decide) (by decide) k.b rfl ?_
  rw [Zac, Zag, Zaf]
  refine Zsx G U8 rfl rfl k.b (Zka X 0) kc ?_
  rw [bm_p X 0]
  show wpX _ (.lit (.bool false)) _ _ _ _
  dsimp only [Zag]; rw [Zwi X h1]
  dsimp only [Zsy, Zai]; rw [if_pos (by decide), Za5, Zak]
  refine Zbf hM (by decide) (by decide) k.b rfl ?_
  dsimp only [Zac, Zag, Zaf]
  refine Zl8 G U8 rfl k.b (Zka X 0) kc ?_
  rw [bm_p X 0]
  intro z1 hz1
  have E1 := Ext.refl.new (o := .list (txs (Zei (xm x 0)))) hz1
  refine Zrr _ _ _ .refl fun H2 z2 E2 hz2 => ?_
  dsimp only [Znm]
  refine Zex (l := []) (l' := []) (by rw [E2 _ _ Zad, Zrw]) hz2 ?_
  rw [decide_eq_true rfl, Zai]
  show K _ H2
  have K2 := k.ext (E1.trans E2)
  refine nx _ _ ?_
  clear hz2 E2 hz1 E1
  have keptAt : ∀ {g : Gx} {V : VV} {H' : Zaa} {B : Bk} {j : Nat} {w : AV} {Q' : AV → Zaa → Prop} {E' : String → Zaa → Prop}, V[7]? = some (some (.ref kk)) → Kp8 H' b pu kk k1 k2 k3 ts us pL gL nL B → [AV.ref k1, .ref k2, .ref k3][j]? = some w → Q' w H' → wpX g (.sub (.var 7) (.lit (.int j))) V Q' E' H' := fun {g V H' B j w Q' E'} hV kx hj hq => by
    dsimp only [Zau, Zae]; rw [hV]
    show wpX _ (.lit (.int j)) _ _ _ _
    dsimp only [Zag]
    exact Zmt kx.kk hj (show 3 ≤ 1000 by decide) hq
  refine w_st fun K nx => ?_
  dsimp only [Zba]
  refine ⟨rfl, ?_⟩
  refine keptAt (j := 0) rfl K2 rfl ?_
  show WFor _ _ (.ref k1) _ _
  have ll := Zbj k.p1
  rw [← hp, List.length_map] at ll
  refine Zcw (xs := ts.map .ref) (by simp only [Zan, K2.k1]) (fun m V' H' => (∃ p3 p8, V' = [some (.ref sp), some (.ref b), some (.ref pu), p3, v4, some (.ref r), some (.str (S8 "")), some (.ref kk), p8]) ∧ Kp8 H' b pu kk k1 k2 k3 ts us pL gL nL (bm x m)) ⟨⟨_, _, rfl⟩, K2⟩ ?_
  rintro I hI m V' H' ⟨⟨p3, p8, rfl⟩, kx⟩
  refine ⟨by show H' k1 = H2 k1; rw [kx.k1, K2.k1], fun hk => ?_, fun y hy => ?_⟩
  rotate_left
  · rw [List.getElem?_map, Option.map_eq_some_iff] at hy
    obtain ⟨t, ht, rfl⟩ := hy
    obtain ⟨e, he, _, htt, q1, q2⟩ := Zb3 kx.p1 ht
    rw [← hp, List.getElem?_map, Option.map_eq_some_iff] at he
    obtain ⟨e, he, rfl⟩ := he
    obtain ⟨a1, a2, a3⟩ := Zul X he
    show Zbi 2 (.ref t) H' _
    unfold Zbi
    dsimp only
    rw [htt]
    refine ⟨rfl, ?_⟩
    show wpSs _ _ _ _ _ [some (.ref sp), some (.ref b), some (.ref pu), some (.str e.1), v4, some (.ref r), some (.str (S8 "")), some (.ref kk), some (.int e.2)] _
    refine w_st fun K3 nx3 => ?_
    dsimp only [Zao]
    refine Zbf hM (by decide) (by decide) kx.b rfl ?_
    rw [Zac, Zae]
    show wpXs _ [.lit (.str (S8 "cleo"))] _ _ _ _
    dsimp only [Zac, Zag, Zaf]
    refine Zqc G U8 rfl rfl kx.b q1 kc (Zka X m) ?_
    show Ends (Zfq (bm x m) (.str e.1) (.str (S8 "cleo"))) _ _
    rw [a1]
    refine nx3 _ _ ?_
    have k4 := kx.book (B' := bm x (m + 1))
    show wpSs _ _ _ _ _ _ (Mine.up H' b (.book (bm x (m + 1))))
    generalize Mine.up H' b (.book (bm x (m + 1))) = H4 at k4
    rw [Zas, Zax, Zak]
    refine Zbf hM (by decide) (by decide) k4.b rfl ?_
    dsimp only [Zac, Zae]
    show wpXs _ [] _ _ _ _
    dsimp only [Zaf]
    refine Zkh G U8.a k4.b q1.kn (Zka X (m + 1)).both ?_
    show if Zbn (bm x (m + 1)) (.str e.1) = true then _ else _
    rw [if_pos a3, show Zd2 (bm x (m + 1)) (.str e.1) = e.2 from a2]
    show wcmp .NotEq (.int e.2) (.int e.2) _ _
    dsimp only [c_ne, Zai]; rw [show (e.2 != e.2) = false from bne_self_eq_false _]
    exact hI _ _ _ ⟨⟨_, _, rfl⟩, k4⟩
  rw [List.length_map, ll] at hk
  subst hk
  refine nx _ _ ?_
  refine w_st fun K nx => ?_
  dsimp only [Zax, x_ao, Zat, Zak]
  refine Zbf hM (by decide) (by decide) kx.b rfl ?_
  rw [Zac, Zag, Zaf]
  refine Zsx G U8 rfl rfl kx.b (Zka X _) kc ?_
  rw [bm_p X]
  show wpX _ (.lit (.bool true)) _ _ _ _
  dsimp only [Zag]; rw [Zsw X]
  dsimp only [Zsy, Zai]; rw [if_pos (by decide), Za5, Zak]
  refine Zbf hM (by decide) (by decide) kx.b rfl ?_
  dsimp only [Zac, Zag, Zaf]
  refine Zl8 G U8 rfl kx.b (Zka X _) kc ?_
  rw [bm_p X]
  intro z5 hz5
  rw [Zrv X _ (Nat.le_refl _)]
  have E5 := Ext.refl.new (o := .list (txs (x.parts.map (·.1)))) hz5
  have hz51 : Mine.up H' z5 (.list (txs (x.parts.map (·.1)))) z5 = some (.list (txs (x.parts.map (·.1)))) := Zad
  generalize Mine.up H' z5 (.list (txs (x.parts.map (·.1)))) = H5 at E5 hz51
  have K5 := kx.ext E5
  dsimp only [Zbd]
  refine ⟨rfl, ?_⟩
  refine keptAt (j := 0) rfl K5 rfl ?_
  show Zkj _ _ (.ref k1) _
  refine Zhw (xs := ts.map .ref) (by simp only [Zan, K5.k1]) (by rw [List.length_map, ll]; exact Nat.le_trans X.pl (by decide)) (fst2 H5) (fun y hy nx6 hnx => ?_) fun w hw => ?_
  · obtain ⟨t, ht, rfl⟩ := List.mem_map.mp hy
    obtain ⟨m, hm, rfl⟩ := List.mem_iff_getElem.mp ht
    obtain ⟨e, he, _, htt, q1, q2⟩ := Zb3 K5.p1 (List.getElem?_eq_getElem hm)
    rw [Zmf htt] at hnx
    rw [if_pos rfl]
    show Zbi 2 (.ref _) H5 _
    unfold Zbi
    dsimp only
    rw [htt]
    refine ⟨rfl, ?_⟩
    dsimp only [Zbp]; rw [if_pos rfl, Zae]
    exact hnx
  rw [Zmg K5.p1, ← hp, List.map_map]
  have E6 := Ext.refl.new (o := .list (txs (x.parts.map (·.1)))) hw
  show wcmp .NotEq (.ref z5) (.ref w) _ (Mine.up H5 w (.list (x.parts.map fun e => AV.str e.1)))
  rw [show (x.parts.map fun e => AV.str e.1) = txs (x.parts.map (·.1)) from by unfold txs; rw [List.map_map]; rfl, Znm]
  refine Zex (l := x.parts.map (·.1)) (l' := x.parts.map (·.1)) (E6 _ _ hz51) Zad ?_
  rw [decide_eq_true rfl, Zai]
  have K6 := K5.ext E6
  show K _ (Mine.up H5 w (.list (txs (x.parts.map (·.1)))))
  generalize Mine.up H5 w (.list (txs (x.parts.map (·.1)))) = H6 at K6
  refine nx _ _ ?_
  dsimp only [Zas, Za8, x_ao, Zat, Zak]
  refine keptAt (j := 2) rfl K6 rfl ?_
  dsimp only [Zam, Zac, Zam, Zaf]
  intro z7 hz7
  intro z8 hz8
  intro z9 hz9
  have E7 := (Ext.refl.new (o := .list []) hz7)
  have E8 := E7.new (o := .list [.str (S8 "dan")]) hz8
  have E9 := E8.new (o := .list [.ref z7, .ref z8]) hz9
  have e7 : Mine.up (Mine.up (Mine.up H6 z7 (.list [])) z8 (.list [.str (S8 "dan")])) z9 (.list [.ref z7, .ref z8]) z7 = some (.list []) := Zgj (Zgj Zad hz8) hz9
  have e8' : Mine.up (Mine.up (Mine.up H6 z7 (.list [])) z8 (.list [.str (S8 "dan")])) z9 (.list [.ref z7, .ref z8]) z8 = some (.list [.str (S8 "dan")]) := Zgj Zad hz9
  have e9 : Mine.up (Mine.up (Mine.up H6 z7 (.list [])) z8 (.list [.str (S8 "dan")])) z9 (.list [.ref z7, .ref z8]) z9 = some (.list [.ref z7, .ref z8]) := Zad
  show wcmp .NotIn (.ref k3) (.ref z9) _ (Mine.up (Mine.up (Mine.up H6 z7 (.list [])) z8 (.list [.str (S8 "dan")])) z9 (.list [.ref z7, .ref z8]))
  generalize Mine.up (Mine.up (Mine.up H6 z7 (.list [])) z8 (.list [.str (S8 "dan")])) z9 (.list [.ref z7, .ref z8]) = H9 at E9 e7 e8' e9
  have K9 := K6.ext E9
  have hk3 := K9.k3
  rw [hn] at hk3
  dsimp only [Zdt, Zd4]; rw [e9]
  refine ⟨.list (x.needs.map PyData.str), [.list [], .list [.str (S8 "dan")]], .list hk3 Zg4, .cons (.list e7 .nil) (.cons (.list e8' (.cons (.str _) .nil)) .nil), Zos, rfl, ?_⟩
  have key : ([PyData.list [], .list [.str (S8 "dan")]].any fun y => PyData.eqv y (.list (x.needs.map PyData.str))) = (decide (([] : List Str) = x.needs) || decide ([S8 "dan"] = x.needs)) := by
    rw [← Zi2 (l := []) (l' := x.needs), ← Zi2 (l := [S8 "dan"]) (l' := x.needs)]
    show (_ || (_ || false)) = _
    rw [Bool.or_false]; rfl
  rw [key]
  show Zbh (.bool (!(decide (([] : List Str) = x.needs) || decide ([S8 "dan"] = x.needs)))) _ _
  dsimp only [Zai]
  cases hb : (decide (([] : List Str) = x.needs) || decide ([S8 "dan"] = x.needs)) with
  | false => exact q _
  | true =>
    show wpAO _ false [_] _ _ _ _
    rw [Za5, Zal, Zac, Zae]
    show wpXs _ [_, _, _] _ _ _ _
    dsimp only [Zac]
    refine keptAt (j := 0) rfl K9 rfl ?_
    refine keptAt (j := 1) rfl K9 rfl ?_
    dsimp only [Zae]
    show wpXs _ [] _ _ _ _
    dsimp only [Zaf]
    refine Ztk G (n := n + 1) X K9.b K9.pu K9.k1 (by rw [hp]; exact K9.p1) K9.k2 (by rw [hg]; exact K9.p2) (fun o ho => ?_) q
    rw [Bool.or_eq_true, decide_eq_true_eq, decide_eq_true_eq] at hb
    rcases hb with e | e
    · rw [← e] at ho; cases ho
    · rw [← e] at ho; exact List.mem_singleton.mp ho
end
end Mine
end
section
open PySem PySem.W PyProof.Rows PySem.Spec PySem.SeqAt PySem.Calls
namespace Mine
open L08
theorem sl3 {dv : Str} (h : dv ≠ S8 "") : Zfc (txs four8) none (some (3 + (if (dv == S8 "") = true then 1 else 0))) none = txs [S8 "ann", S8 "bob", S8 "dan"] := by
  rw [if_neg (fun e => h (beq_iff_eq.mp e))]; kernel_rfl
theorem sl4 : Zfc (txs four8) none (some (3 + (if (S8 "" == S8 "") = true then 1 else 0))) none = txs [S8 "ann", S8 "bob", S8 "dan", S8 "cleo"] := by
  rw [if_pos (beq_self_eq_true _)]; kernel_rfl
section
variable {c : Cx} (G : Gd c L08.P) {n : Nat} {H : Zaa} {sp : Addr} {ns : List Int}
include G
theorem Ztw (h : H sp = some (.script ns)) (hl : ns.length ≤ 63) : CallOK c (n + 6) true "law" [.ref sp] (fun v _ => v = .bool true) (fun _ _ => False) H := by
  refine G.call (F := L08.f_law) rfl rfl ?_
  show wpSs _ L08.f_law.body _ _ _ [some (.ref sp), none, none, none, none, none, none, none, none] _
  refine Zxi G h fun H1 b pu v3 v4 hs hb hpu => ?_
  refine w_st fun K nx => ?_
  rw [Zaj, Zal, Zac, Zae]
  show wpXs _ [.var 2] _ _ _ _
  rw [Zac, Zae]
  show wpXs _ [] _ _ _ _
  rw [Zaf]
  refine Zn5 G (n := n + 1) hs hl hpu fun H2 r v pl gl nl ts us pL gL nL last E2 R nr npl ngl nnl dgp dnp dng => ⟨show 5 < 9 by decide, nx _ _ ?_⟩
  refine w_st fun K nx => ?_
  rw [Zaj, Zal, Zac, Zae]
  show wpXs _ [.var 2] _ _ _ _
  rw [Zac, Zae]
  show wpXs _ [] _ _ _ _
  rw [Zaf]
  refine Zwm G (n := n + 2) R (E2 _ _ hpu) fun H3 E3 => ⟨show 6 < 9 by decide, nx _ _ ?_⟩
  have R3 := R.ext E3
  show wpSs _ _ _ _ _ [some (.ref sp), some (.ref b), some (.ref pu), v3, v4, some (.ref r), some (.str (due8 v pL gL nL last)), none, none] _
  refine w_st fun K nx => ?_
  rw [Zaj, Zam, Zac, Zar, Zac]
  refine Zd7 (j := 1) R3 rfl rfl ?_
  rw [Zaf]
  refine Zlz R3.p (by rw [List.length_map, Zbj R3.pp]; exact Nat.le_trans R3.l1 (by decide)) fun k1 hk1 => ?_
  have E4 := Ext.refl.new (o := .list (ts.map .ref)) hk1
  have k1a : up H3 k1 (.list (ts.map .ref)) k1 = some (.list (ts.map .ref)) := Zad
  generalize up H3 k1 (.list (ts.map .ref)) = H4 at E4 k1a
  have R4 := R3.ext E4
  rw [Zac, Zar, Zac]
  refine Zd7 (j := 2) R4 rfl rfl ?_
  rw [Zaf]
  refine Zlz R4.g (by rw [List.length_map, Zbj R4.gg]; exact Nat.le_trans R4.l2 (by decide)) fun k2 hk2 => ?_
  have E5 := Ext.refl.new (o := .list (us.map .ref)) hk2
  have k2a : up H4 k2 (.list (us.map .ref)) k2 = some (.list (us.map .ref)) := Zad
  generalize up H4 k2 (.list (us.map .ref)) = H5 at E5 k2a
  have R5 := R4.ext E5
  rw [Zac, Zar, Zac]
  refine Zd7 (j := 3) R5 rfl rfl ?_
  rw [Zaf]
  refine Zlz R5.n (Nat.le_trans R5.l3 (by decide)) fun k3 hk3 => ?_
  have E6 := Ext.refl.new (o := .list nL) hk3
  have k3a : up H5 k3 (.list nL) k3 = some (.list nL) := Zad
  generalize up H5 k3 (.list nL) = H6 at E6 k3a
  have R6 := R5.ext E6
  rw [Zaf]
  intro kk hkk
  have E7 := Ext.refl.new (o := .list [.ref k1, .ref k2, .ref k3]) hkk
  have kka : up H6 kk (.list [.ref k1, .ref k2, .ref k3]) kk = some (.list [.ref k1, .ref k2, .ref k3]) := Zad
  generalize up H6 kk (.list [.ref k1, .ref k2, .ref k3]) = H7 at E7 kka
  have R7 := R6.ext E7
  refine ⟨show 7 < 9 by decide, nx _ _ ?_⟩
  have E17 := ((((E2.trans E3).trans E4).trans E5).trans E6).trans E7
  have kp : Kp8 H7 b pu kk k1 k2 k3 ts us pL gL nL Bf8 := ⟨E17 _ _ hb, E17 _ _ hpu, kka, E7 _ _ (E6 _ _ (E5 _ _ k1a)), R7.pp, E7 _ _ (E6 _ _ k2a), R7.gg, E7 _ _ k3a⟩
  have fr : ∀ {z : Addr} {xs : List AV}, H1 z = none → H3 z = some (.list xs) → z ≠ pu ∧ z ≠ kk ∧ z ≠ k1 ∧ z ≠ k2 ∧ z ≠ k3 := fun {z xs} n0 hz => by
    refine ⟨fun e => ?_, fun e => ?_, fun e => ?_, fun e => ?_, fun e => ?_⟩
    · rw [e, hpu] at n0; cases n0
    · rw [← e, E6 _ _ (E5 _ _ (E4 _ _ hz))] at hkk; cases hkk
    · rw [← e, hz] at hk1; cases hk1
    · rw [← e, E4 _ _ hz] at hk2; cases hk2
    · rw [← e, E5 _ _ (E4 _ _ hz)] at hk3; cases hk3
  have hne : ∀ z ∈ [pl, gl, nl], z ≠ pu ∧ z ≠ kk ∧ z ≠ k1 ∧ z ≠ k2 ∧ z ≠ k3 := fun z hz => by
    simp only [List.mem_cons, List.not_mem_nil, or_false] at hz
    rcases hz with rfl | rfl | rfl
    · exact fr npl R3.p
    · exact fr ngl R3.g
    · exact fr nnl R3.n
  have hrn : ∀ z ∈ [pl, gl, nl], r ≠ z := fun z hz => by
    simp only [List.mem_cons, List.not_mem_nil, or_false] at hz
    have refs : ∀ {ws : List Addr}, [v, AV.ref pl, .ref gl, .ref nl, last] ≠ ws.map .ref := fun {ws} e => by
      have : last ∈ ws.map AV.ref := by rw [← e]; exact .tail _ (.tail _ (.tail _ (.tail _ (.head _))))
      obtain ⟨a, _, ha⟩ := List.mem_map.mp this
      exact R.l.nr a ha.symm
    rcases hz with rfl | rfl | rfl
    · intro e; have := R.r; rw [e, R.p] at this; exact refs (AObj.list.inj (Option.some.inj this)).symm
    · intro e; have := R.r; rw [e, R.g] at this; exact refs (AObj.list.inj (Option.some.inj this)).symm
    · intro e
      have := R.r
      rw [e, R.n] at this
      have := AObj.list.inj (Option.some.inj this)
      have hm : AV.ref pl ∈ nL := by rw [this]; exact .tail _ (.head _)
      exact (R.nn _ hm).kv.nr pl rfl
  have hdue := Zls is8 (pL := pL) (gL := gL) (nL := nL) (last := last) R7.v
  cases e : Zdl Bf8 v pL gL nL last with
  | error cl =>
    rw [e] at hdue
    have hd : due8 v pL gL nL last ≠ S8 "" := by rw [← hdue]; exact Zov cl (Zg0 e)
    exact mid8 G (n := n) (Bx := Bf8) (nm := [S8 "ann", S8 "bob", S8 "dan"]) R7 kp hne hrn dgp dnp dng (by rw [e]; rfl) rfl rfl (by decide) (sl3 hd) fun H' k' => endA G (n := n) k' hd fun _ => rfl
  | ok B' =>
    rw [e] at hdue
    obtain ⟨x, X, rfl, hp, hg, h1, hn⟩ := Zwr R7.v e
    have hd : due8 v pL gL nL last = S8 "" := hdue.symm
    rw [hd]
    exact mid8 G (n := n) (Bx := bm x 0) (nm := [S8 "ann", S8 "bob", S8 "dan", S8 "cleo"]) R7 kp hne hrn dgp dnp dng (by rw [e]; rfl) hd (Zur X) (Zka X 0).len sl4 fun H' k' => endB G (n := n) X h1 hp hg hn k' fun _ => rfl
end
end Mine
end
namespace Mine.L08
theorem law_ok {c : Cx} (G : Gd c P) {n : Nat} {H : Zaa} {sp : Addr} {ns : List Int} (h : H sp = some (.script ns)) (hl : ns.length ≤ 63) : CallOK c (n + 6) true "law" [.ref sp] (fun v _ => v = .bool true) (fun _ _ => False) H := Ztw G h hl
end Mine.L08
namespace Mine.L08
noncomputable def view : Program := PySem.W.view PySem.Challenge.pw_uf020038_08 [48]
noncomputable def loose : List Str := [Str.ofString "_wall", Str.ofString "__name__", Str.ofString "BookError", Str.ofString "NoName", Str.ofString "NoAmount", Str.ofString "Taken", Str.ofString "NoPurse", Str.ofString "TooLittle", Str.ofString "NoRow", Str.ofString "Twice", Str.ofString "Uneven", Str.ofString "Fallen", Str.ofString "NoDay", Str.ofString "NoPact", Str.ofString "NotOpen", Str.ofString "NoPart", Str.ofString "Already", Str.ofString "Pact", Str.ofString "are_met", Str.ofString "table_of", Str.ofString "greatest", Str.ofString "LETTERS", Str.ofString "MOST_SIGNS", Str.ofString "MOST_AMOUNT", Str.ofString "is_whole", Str.ofString "is_name", Str.ofString "name_of", Str.ofString "amount_of", Str.ofString "MOST", Str.ofString "Book", Str.ofString "_law_whole", Str.ofString "_law_cell_at", Str.ofString "_law_mixed", Str.ofString "_law_told", Str.ofString "_law_pairs_by", Str.ofString "_law_pairs_due", Str.ofString "_law_total", Str.ofString "_law_needs_due", Str.ofString "_law_due", Str.ofString "_law_gains_by", Str.ofString "_law_paid", Str.ofString "_law_refused_again", Str.ofString "_law_row_by"]
noncomputable def hook : Hook := Zl3 P (3 :: (List.range 581).drop 11)
theorem left : LeftO PySem.Challenge.pw_uf020038_08 view loose (fun s => xlAt view [] s && recOk [] s) hook.obs hook.val 30000 true :=
  Ztv Zm8 (m0 := 11) (ann := some (.ref 6)) rfl rfl (fun s => rfl) (fun w => by kernel_rfl) (fun w os => by kernel_rfl)
end Mine.L08
open PySem.W.X in
set_option maxHeartbeats 0 in
theorem PySem.Challenge.cw_uf020038_08_holds : PySem.Challenge.rw_uf020038_08.Holds := by
  w_on
  refine holds_law (by decide +kernel) fun said => ?_
  refine holds_open (q := Mine.L08.view) (loose := Mine.L08.loose) (Xt := fun s => xlAt Mine.L08.view [] s && recOk [] s) (XP := XL Mine.L08.view []) (Yf := Mine.L08.hook.obs) (Ya := Mine.L08.hook.val) (YP := Mine.L08.hook.says) (N := 30000) Mine.L08.left Mine.L08.hook.of Mine.L08.hook.keeps (fun s e => xl_of s (Bool.and_eq_true_iff.mp e).1) XL.keeps (by rfl) (by rfl) (by rfl) (fun s e => recFacts_of (Bool.and_eq_true_iff.mp e).2) (by rfl) (by first | assumption | decide +kernel) (by decide +kernel) ⟨rfl, rfl, rfl, rfl, rfl, by decide +kernel⟩ ?hw ?hc
  case hw => w_witness2
  case hc =>
    intro w s0 s₁ mg mb G Y fa o pm cd doc dV kV ho hd hcd hD hmg hg args vals as hpre hlay hrd hwl hlo
    obtain ⟨K, KX, hok⟩ := Y
    clear ho hd hcd hD
    refine Ground.open G ?_
    intro T B D TE TW
    wrow_args hpre hlay hrd hwl hlo
    clear G B D TE TW
    have hseer := T.seer (by decide +kernel)
    refine Mine.enter (P := Mine.L08.P) (n := 6) (by decide) KX T hseer (by rfl) rfl hmg hok (by rfl) (Mine.script_get (by assumption) (by assumption)) (by assumption) ?mineC ?mineQ
    case mineC =>
      intro c hP C PO FO
      exact Mine.L08.law_ok (n := 0) ⟨hP, ⟨_, _, C⟩, PO, FO⟩ Mine.scriptH_at (by omega)
    case mineQ =>
      intro s' st ho hgn
      exact GoodW.toG ⟨.inl ⟨.bool true, .bool true, [], rfl, fun _ => rfl, .bool true, by kernel_rfl, fun _ => ⟨List.nodup_nil, fun a ha => by cases ha⟩⟩, st, ho, hgn.trans hg⟩




