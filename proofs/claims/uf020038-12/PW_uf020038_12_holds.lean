import PyProof.Rows.All
import Wide.All
import OpenK.AllK
import Wide.FinOn
import KE.KDictList
import KE.KEqDict
import Open.Boot
import Open.FastT9
import Open.Tree
import OpenK.KCell
import OpenK.KList
import OpenK.KMore
import OpenK.KNot
import OpenK.KOwn
import OpenK.KWalk
import PyProof.ExcArgs
import PyProof.NsDelKeeps
import PyProof.WalksMore
import PyProof.WalksPairs
import PySem.Challenge.RW_uf020038_12
open PySem PySem.W PyProof.Rows PySem.Spec PySem.SeqAt PySem.Calls
set_option Elab.async false
set_option maxRecDepth 100000
set_option maxHeartbeats 4000000
set_option linter.all false
set_option bootstrap.genMatcherCode false
set_option genSizeOf false
set_option genSizeOfSpec false
set_option tactic.hygienic false
section
open PySem PySem.W PyProof.Rows PySem.Spec PySem.SeqAt
namespace Mine
inductive AV where
  | none
  | bool (b:Bool)
  | int (i:Int)
  | str (s:Str)
  | ref (a:Addr)
  deriving DecidableEq,Inhabited
inductive Sta where
  | opn | dn | fln
  deriving DecidableEq,Inhabited
noncomputable def Sta.str:Sta→Str
  | .opn=>Str.ofString "open"
  | .dn=>Str.ofString "done"
  | .fln=>Str.ofString "fallen"
set_option genInjectivity false in
structure Pc where
  name:Str
  parts:List (Str×Int)
  gains:List (Str×Int)
  needs:List Str
  last:Int
  state:Sta
  inside:List Str
set_option genInjectivity false in
structure Bk where
  day:Int
  free:List (Str×Int)
  aside:List (Str×Int)
  pacts:List Pc
noncomputable def letters:Str:=Str.ofString "abcdefghijklmnopqrstuvwxyz"
noncomputable def isNm (s:Str):Bool:=decide (1≤s.length∧s.length≤12) && s.cps.toList.all fun ch=>letters.cps.toList.contains ch
noncomputable def lk {α:Type} (l:List (Str×α)) (k:Str):Option α:=(l.find? fun e=>e.1=k).map (·.2)
noncomputable def pt {α:Type} (l:List (Str×α)) (k:Str) (v:α):List (Str×α):=if (lk l k).isSome then l.map (fun e=>if e.1=k then (e.1,v) else e) else l ++ [(k,v)]
noncomputable def ad (l:List (Str×Int)) (k:Str) (n:Int):List (Str×Int):=pt l k ((lk l k).getD 0 + n)
noncomputable def Bk.pact (B:Bk) (k:Str):Option Pc:=B.pacts.find? fun q=>q.name=k
noncomputable def Bk.setPact (B:Bk) (k:Str) (f:Pc→Pc):Bk:={ B with pacts:=B.pacts.map fun q=>if q.name=k then f q else q }
noncomputable def Bk.giveBack (B:Bk) (k:Str) (n:Int):Bk:={ B with aside:=ad B.aside k (-n),free:=ad B.free k n }
noncomputable def Bk.fellQ (B:Bk) (q:Pc):Bk :=
  (q.parts.foldl (fun B e=>if e.1∈q.inside then B.giveBack e.1 e.2 else B) B).setPact q.name fun q=>{ q with inside:=[],state:=.fln }
noncomputable def Bk.fallen (B:Bk) (k:Str):Bool:=match B.pact k with
  | some q=>q.state == .fln
  | none=>false
noncomputable def Bk.firstDragged (B:Bk):Option Pc:=B.pacts.find? fun q=>q.state == .opn && q.needs.any B.fallen
noncomputable def Bk.dragged:Nat→Bk→List Str→Bk×List Str
  | 0,B,l=>(B,l)
  | n + 1,B,l=>match B.firstDragged with
    | none=>(B,l)
    | some q=>(B.fellQ q).dragged n (l ++ [q.name])
inductive AObj where
  | list (xs:List AV)
  | tuple (xs:List AV)
  | dict (ep:Nat) (es:List (Str×AV))
  | inst (c:String) (es:List (String×AV))
  | range (lo hi:Int)
  | vals (d:Addr)
  | itms (d:Addr)
  | exc (c:String)
  | script (ns:List Int)
  | book (B:Bk)
noncomputable def AObj.isB:AObj→Bool
  | .book _=>true
  | _=>false
noncomputable def AObj.isS:AObj→Bool
  | .script _=>true
  | _=>false
noncomputable def AObj.isX:AObj→Bool
  | .script _=>true
  | .exc _=>true
  | _=>false
abbrev Zaa:=Addr→Option AObj
noncomputable def up (H:Zaa) (a:Addr) (o:AObj):Zaa:=fun b=>if b=a then some o else H b
abbrev VV:=List (Option AV)
inductive VR:AV→Value→Prop
  | none:VR .none .none
  | bool (b:Bool):VR (.bool b) (.bool b)
  | int (i:Int) (t:Tok):VR (.int i) (.int i t)
  | str (s:Str) (t:Tok) (h:PyData.strOk s=true):VR (.str s) (.str s t)
  | ref (a:Addr):VR (.ref a) (.ref a)
inductive VRs:List AV→List Value→Prop
  | nil:VRs [] []
  | cons {a v as vs}:VR a v→VRs as vs→VRs (a :: as) (v :: vs)
inductive OVR:Option AV→Option Value→Prop
  | none:OVR Option.none Option.none
  | some {a v}:VR a v→OVR (Option.some a) (Option.some v)
inductive DRs:List (Str×AV)→List (Str×Value)→Prop
  | nil:DRs [] []
  | cons {k a v as vs}:PyData.strOk k=true→VR a v→DRs as vs→DRs ((k,a) :: as) ((k,v) :: vs)
set_option genCtorIdx false in
set_option genInjectivity false in
inductive Tg where
  | var (i:Nat)
  | tup (is:List Nat)
set_option genInjectivity false in
inductive Pr where
  | len | list | int | range | sum | all | min | max | min3
noncomputable def Pr.str:Pr→String
  | .len=>"len" | .list=>"list" | .int=>"int" | .range=>"range" | .sum=>"sum" | .all=>"all" | .min=>"min" | .max=>"max" | .min3=>"min"
set_option genInjectivity false in
inductive BM where
  | append | index | count | clear | values | pop | upper
noncomputable def BM.str:BM→String
  | .append=>"append" | .index=>"index" | .count=>"count" | .clear=>"clear" | .values=>"values" | .pop=>"pop" | .upper=>"upper"
set_option genInjectivity false in
inductive X where
  | lit (v:AV)
  | var (i:Nat)
  | glob (n:String)
  | bin (op:Operator) (a b:X)
  | neg (a:X)
  | not (a:X)
  | ao (isAnd:Bool) (xs:List X)
  | cmp (op:CmpOp) (a b:X)
  | cmp2 (op1 op2:CmpOp) (a b c:X)
  | sub (a i:X)
  | slice (a:X) (lo hi st:Option X)
  | attr (a:X) (n:String)
  | call (f:String) (xs:List X)
  | new (c:String) (xs:List X)
  | meth (a:X) (m:String) (xs:List X)
  | bm (a:X) (m:BM) (xs:List X)
  | prim (f:Pr) (xs:List X)
  | isinst (a:X) (c:String)
  | list (xs:List X)
  | tuple (xs:List X)
  | dict (ks vs:List X)
  | comp (e:X) (k:Nat) (tup:Bool) (it:X) (c:Option X)
set_option genCtorIdx false in
set_option genInjectivity false in
inductive T where
  | var (i:Nat)
  | tup (is:List Nat)
  | sub (a i:X)
  | attr (a:X) (n:String)
set_option genCtorIdx false in
set_option genInjectivity false in
mutual
inductive S where
  | assign (t:T) (e:X)
  | expr (e:X)
  | ret (e:X)
  | ite (c:X) (a b:List S)
  | while (c:X) (body:List S)
  | for (t:Tg) (it:X) (body:List S)
  | raise (c:String) (msg:Str)
  | try (body:List S) (hs:List Hd)
  | pass
inductive Hd where
  | mk (c:String) (nm:Option Nat) (body:List S)
end
set_option genInjectivity false in
structure Fn where
  npar:Nat
  slots:List String
  body:List S
set_option genInjectivity false in
structure Pg where
  fns:List (String×Fn)
  gfns:List String
  consts:List (String×AV)
  excs:List (String×List String)
  classes:List String
  meths:List (String×String)
  attrs:List (String×String)
  prims:List String
inductive Res where
  | ns (m:Str→Option Value)
  | cell (v:Option Value)
  | obj (o:Obj)
abbrev RR:=Addr→Option Res
noncomputable def rup (R:RR) (a:Addr) (r:Res):RR:=fun b=>if b=a then some r else R b
noncomputable def ResAt (h:Heap) (b:Addr):Res→Prop
  | .ns m=>h.Ns b m
  | .cell v=>∃ o,h.get? b=some o∧o.data = .cell v
  | .obj o=>h.get? b=some o
set_option genInjectivity false in
structure Cx where
  prog:Program
  w:World
  K:Frag
  base:Heap
  P:Pg
  fa:String→Addr
  ca:String→Addr
noncomputable def Zcg (es:List (String×AV)) (ents:List DictEntry):Prop :=
  match es,ents with
  | [],[]=>True
  | (n,a) :: r,e :: q=>(∃ t,e.key = .str (Str.ofString n) t)∧VR a e.val∧Zcg r q
  | _,_=>False
noncomputable def RgOk (a b:Int):Prop:=-(2 ^ 62) < a∧a < 2 ^ 62∧-(2 ^ 62) < b∧b < 2 ^ 62
noncomputable def ORep (c:Cx) (h:Heap) (D:Addr→Addr) (a:Addr):AObj→Prop
  | .list xs=>∃ vs n,h.get? a=some (listOf (vs:List Value).toArray n)∧VRs xs vs
  | .tuple xs=>∃ vs n,h.get? a=some { cls:=.type "tuple",data:=.seq (vs:List Value).toArray n }∧VRs xs vs
  | .dict ep es=>∃ kvs,h.DictAt (strKind c.prog c.w) a kvs ep∧DRs es kvs
  | .inst cl es=>h.get? a=some (instObj (c.ca cl) (D a))∧∃ ents n,h.get? (D a)=some (dictOf ents n)∧Zcg es ents∧(es.map (·.1)).Nodup
  | .range lo hi=>RgOk lo hi∧∃ t u v,IsRange h a lo hi 1 t u v
  | .vals d=>h.get? a=some { cls:=.type "dict_values",data:=.fields #[.ref d] }
  | .itms d=>h.get? a=some { cls:=.type "dict_items",data:=.fields #[.ref d] }
  | .exc cl=>∃ o,h.get? a=some o∧o.cls = .ref (c.ca cl)∧∃ vs,o.data = .fields vs
  | .script ns=>∃ vs n,h.get? a=some (listOf (vs:List Value).toArray n)∧VRs (ns.map AV.int) vs
  | .book _=>False
noncomputable def Abv (c:Cx) (a:Addr) (o:AObj):Prop:=(o.isS=false→c.base.get? a=none)∧(o.isX=false→c.base.objs.size≤a)
structure HR (c:Cx) (R:RR) (D:Addr→Addr) (H:Zaa) (h:Heap):Prop where
  rep:∀ a o,H a=some o→ORep c h D a o
  above:∀ a o,H a=some o→Abv c a o∧R a=none
  dict:∀ a cl es,H a=some (.inst cl es)→c.base.objs.size≤D a∧R (D a)=none∧H (D a)=none
  inj:∀ a b cl es cl' es',H a=some (.inst cl es)→H b=some (.inst cl' es')→D a=D b→a=b
structure St1 (c:Cx) (R:RR) (H:Zaa) (h:Heap):Prop where
  stays:c.base.StaysIn h
  size:c.base.objs.size≤h.objs.size
  res:∀ b r,R b=some r→c.base.objs.size≤b∧ResAt h b r
  rep:∃ D,HR c R D H h
inductive Role where
  | self | free | aside | pacts | pact (i:Nat) | inside (i:Nat) | data
noncomputable def dI (l:List (Str×Int)):List (Str×AV):=l.map fun e=>(e.1,.int e.2)
noncomputable def pairsAV (o:Addr→Option Role) (H:Zaa):List Addr→List (Str×Int)→Prop
  | [],[]=>True
  | t :: ts,e :: l=>o t=some .data∧H t=some (.tuple [.str e.1,.int e.2])∧pairsAV o H ts l
  | _,_=>False
noncomputable def PairsAt (o:Addr→Option Role) (H:Zaa) (p:Addr) (l:List (Str×Int)):Prop:=o p=some .data∧∃ ts:List Addr,H p=some (.list (ts.map .ref))∧pairsAV o H ts l
structure IsPact (o:Addr→Option Role) (H:Zaa) (i:Nat) (a:Addr) (q:Pc):Prop where
  own:o a=some (.pact i)
  at_:∃ pa ga ne ins ep,H a=some (.inst "Pact" [("name",.str q.name),("parts",.ref pa),("gains",.ref ga),("needs",.ref ne),("last",.int q.last),("state",.str q.state.str),("inside",.ref ins)]) ∧
    PairsAt o H pa q.parts∧PairsAt o H ga q.gains∧o ne=some .data∧H ne=some (.list (q.needs.map .str))∧o ins=some (.inside i)∧H ins=some (.dict ep (q.inside.map fun k=>(k,.bool true)))
noncomputable def pactsAt (o:Addr→Option Role) (H:Zaa):Nat→List Addr→List Pc→Prop
  | _,[],[]=>True
  | i,a :: as,q :: qs=>IsPact o H i a q∧pactsAt o H (i + 1) as qs
  | _,_,_=>False
noncomputable def dP:List Pc→List Addr→List (Str×AV)
  | q :: qs,a :: as=>(q.name,.ref a) :: dP qs as
  | _,_=>[]
structure IsBook (o:Addr→Option Role) (H:Zaa) (b f s p:Addr) (as:List Addr) (B:Bk):Prop where
  ob:o b=some .self
  of:o f=some .free
  os:o s=some .aside
  op:o p=some .pacts
  hb:H b=some (.inst "Book" [("day",.int B.day),("free",.ref f),("aside",.ref s),("pacts",.ref p)])
  hf:∃ ep,H f=some (.dict ep (dI B.free))
  hs:∃ ep,H s=some (.dict ep (dI B.aside))
  hp:∃ ep,H p=some (.dict ep (dP B.pacts as))
  ps:pactsAt o H 0 as B.pacts
noncomputable def ownB (o:Addr→Option (Addr×Role)) (b:Addr):Addr→Option Role:=fun a=>match o a with
  | some (c,r)=>if c=b then some r else none
  | none=>none
noncomputable def Real (H H₁:Zaa):Prop:=(∀ a x,H₁ a=some x→x.isB=false)∧∃ o:Addr→Option (Addr×Role),∀ a x,H a=some x→(x.isB=false∧H₁ a=some x∧o a=none)∨∃ B f s p as,x = .book B∧IsBook (ownB o a) H₁ a f s p as B
noncomputable def St (c:Cx) (R:RR) (H:Zaa) (h:Heap):Prop:=∃ H₁,St1 c R H₁ h∧Real H H₁
noncomputable def Sm (s s':Shared):Prop:=∃ h tk,s' = { s with heap:=h,toks:=tk }
structure FEnv (R:RR) (e:Env):Prop where
  kind:e.scope.kind = .function
  frame:e.frame=some e.locals
  gen:e.scope.isGenerator=false
  co:e.scope.isCoroutine=false
  blt:e.builtins=builtinsNs
  glob:e.globals=mainGlobals
  ns:∃ m,R e.locals=some (.ns m)
noncomputable def Stk (R:RR) (stk:List Env):Prop:=∀ e∈stk,FEnv R e
structure AOk (k n:Nat) (md:Bool) (A:Around) (stk:List Env):Prop where
  frames:A.frames=some stk
  depth:A.depth + 110 + k + 8 * n < recursionLimit
  units:A.units + 100 + 10 * k + 60 * n < cLine
  hand:md=true→A.handled=none
inductive ExcAt (c:Cx) (R:RR) (H:Zaa) (h:Heap) (e:Addr) (cls:Value):Value→Prop
  | fresh {t:Addr}:h.get? e=some { cls:=cls,data:=.fields #[.ref t,.none,.none,.none,.bool false,.none] }→ExcAt c R H h e cls .ellipsis
  | traced {oe:Obj} {vs:Array Value} {T:Addr} {oT:Obj} {ts:Array Value} {fl a0:Value}:h.get? e=some oe→oe.cls=cls→oe.data = .fields vs→vs[0]? = some a0→vs[1]? = some (.ref T)→T≠e →
      R T=none→H T=none→c.base.get? T=none→h.get? T=some oT→oT.data = .fields ts→ts[3]? = some fl→fl≠.ellipsis→ExcAt c R H h e cls fl
structure ExcSt1 (c:Cx) (R:RR) (H:Zaa) (e:Addr) (cl:String) (fl:Value) (h:Heap):Prop where
  st:St1 c R H h
  re:R e=none
  he:H e=none
  be:c.base.get? e=none
  ob:ExcAt c R H h e (.ref (c.ca cl)) fl
  kn:(c.P.excs.lookup cl).isSome=true
noncomputable def ExcSt (c:Cx) (R:RR) (H:Zaa) (e:Addr) (cl:String) (fl:Value) (h:Heap):Prop:=∃ H₁,ExcSt1 c R H₁ e cl fl h∧Real H H₁
noncomputable def CallOK (c:Cx) (n:Nat) (md:Bool) (f:String) (args:List AV) (Q:AV→Zaa→Prop) (E:String→Zaa→Prop) (H:Zaa):Prop :=
  ∀ (A:Around) (stk:List Env) (R:RR) (s:Shared) (vals:List Value) (Rs:Result→Shared→Prop),
    AOk 0 n md A stk→Stk R stk→St c R H s.heap→VRs args vals →
    (∀ av v s' H',VR av v→St c R H' s'.heap→Sm s s'→Q av H'→Rs (.ok (.ret v)) s') →
    (∀ e cl s' H',ExcSt c R H' e cl .none s'.heap→Sm s s'→E cl H'→Rs (.error (.ref e)) s') →
    codeAny (model c.prog c.w) A (.call (.ref (c.fa f)) ⟨vals,[]⟩) Rs s
mutual
inductive RD (H:Zaa):AV→PyData→Prop
  | none:RD H .none .none
  | bool (b:Bool):RD H (.bool b) (.bool b)
  | int (i:Int):RD H (.int i) (.int i)
  | str (s:Str):RD H (.str s) (.str s)
  | list {a xs ds}:H a=some (.list xs)→RDs H xs ds→RD H (.ref a) (.list ds)
  | tuple {a xs ds}:H a=some (.tuple xs)→RDs H xs ds→RD H (.ref a) (.tuple ds)
inductive RDs (H:Zaa):List AV→List PyData→Prop
  | nil:RDs H [] []
  | cons {a d as ds}:RD H a d→RDs H as ds→RDs H (a :: as) (d :: ds)
end
mutual
noncomputable def Zkr:PyData→Bool
  | .none | .bool _ | .int _ | .str _=>true
  | .list xs | .tuple xs=>Zd8 xs
  | .dict _=>false
noncomputable def Zd8:List PyData→Bool
  | []=>true
  | x :: xs=>Zkr x && Zd8 xs
end
noncomputable def okD (d:PyData):Prop:=Zkr d=true∧d.depth≤64
noncomputable def Zfy (n:Nat) (i:Int):Option Nat :=
  if 0≤i then (if i < n then some i.toNat else none) else if -(n:Int)≤i then some (i + n).toNat else none
noncomputable def Zbx (es:List (Str×AV)) (k:Str):Option AV:=(es.find? fun e=>e.1=k).map (·.2)
noncomputable def putS (es:List (Str×AV)) (k:Str) (v:AV):List (Str×AV) :=
  if (Zbx es k).isSome then es.map (fun e=>if e.1=k then (e.1,v) else e) else es ++ [(k,v)]
noncomputable def Zd3 (es:List (String×AV)) (k:String):Option AV:=(es.find? fun e=>e.1=k).map (·.2)
noncomputable def putA (es:List (String×AV)) (k:String) (v:AV):List (String×AV) :=
  if (Zd3 es k).isSome then es.map (fun e=>if e.1=k then (e.1,v) else e) else es ++ [(k,v)]
noncomputable def Zbp (v:AV) (H:Zaa) (Q:Bool→Prop):Prop :=
  match v with
  | .none=>Q false
  | .bool b=>Q b
  | .int i=>Q (i != 0)
  | .str s=>s.length < 2 ^ 62∧Q (s.length != 0)
  | .ref a=>match H a with
    | some (.list xs)=>xs.length < 2 ^ 62∧Q (!xs.isEmpty)
    | some (.tuple xs)=>xs.length < 2 ^ 62∧Q (!xs.isEmpty)
    | _=>False
noncomputable def wii (a b:AV) (P:Int→Int→Prop):Prop:=match a,b with
  | .int x,.int y=>P x y
  | _,_=>False
noncomputable def wbin (op:Operator) (a b:AV) (Q:AV→Zaa→Prop) (H:Zaa):Prop :=
  match op with
  | .Add=>(match a,b with
    | .int x,.int y=>Q (.int (x + y)) H
    | .str x,.str y=>x.length + y.length≤sizeLine∧Q (.str (x ++ y)) H
    | .ref x,.ref y=>(match H x,H y with
      | some (.list xs),some (.list ys)=>xs.length + ys.length≤sizeLine∧∀ z,H z=none→Q (.ref z) (up H z (.list (xs ++ ys)))
      | _,_=>False)
    | _,_=>False)
  | .Sub=>wii a b fun x y=>Q (.int (x - y)) H
  | .Mult=>wii a b fun x y=>IntMulOk x y∧Q (.int (x * y)) H
  | .FloorDiv=>wii a b fun x y=>y≠0∧Q (.int (x.fdiv y)) H
  | .Mod=>wii a b fun x y=>y≠0∧Q (.int (x.fmod y)) H
  | .Pow=>wii a b fun x y=>(2≤x∧1≤y∧Builtin.Int.intTooBig (((Builtin.Int.intBits x:Nat):Int) * y)=false)∧Q (.int (x ^ y.toNat)) H
  | _=>False
noncomputable def nt (n b:Bool):Bool:=match n with
  | true=>!b
  | false=>b
theorem Zn5 {n b:Bool}:(b != n)=nt n b:=by cases n <;> cases b <;> rfl
noncomputable def weq (ne:Bool) (a b:AV) (Q:AV→Zaa→Prop) (H:Zaa):Prop :=
  match a,b with
  | .int x,.int y=>Q (.bool (nt ne (x == y))) H
  | .str x,.str y=>Q (.bool (nt ne (x == y))) H
  | a,b=>∃ da db,RD H a da∧RD H b db∧okD da∧okD db∧Q (.bool (nt ne (PyData.eqv da db))) H
noncomputable def win (no:Bool) (x cc:AV) (Q:AV→Zaa→Prop) (H:Zaa):Prop :=
  match cc with
  | .ref a=>match H a with
    | some (.list ys)=>∃ d ds,RD H x d∧RDs H ys ds∧okD d∧Zd8 ds=true∧Q (.bool (nt no (ds.any fun y=>PyData.eqv y d))) H
    | some (.dict _ es)=>match x with
      | .str k=>Q (.bool (nt no (Zbx es k).isSome)) H
      | _=>False
    | _=>False
  | .str s=>match x with
    | .str k=>∃ ch,k=⟨#[ch]⟩∧Q (.bool (nt no (s.cps.toList.contains ch))) H
    | _=>False
  | _=>False
noncomputable def wcmp (op:CmpOp) (a b:AV) (Q:AV→Zaa→Prop) (H:Zaa):Prop :=
  match op with
  | .Eq=>weq false a b Q H
  | .NotEq=>weq true a b Q H
  | .In=>win false a b Q H
  | .NotIn=>win true a b Q H
  | .Is=>match b with
    | .none=>Q (.bool (a == .none)) H
    | .bool c=>Q (.bool (a == .bool c)) H
    | _=>False
  | .IsNot=>match b with
    | .none=>Q (.bool (a != .none)) H
    | .bool c=>Q (.bool (a != .bool c)) H
    | _=>False
  | op=>match a,b with
    | .int x,.int y=>match op with
      | .Lt=>Q (.bool (decide (x < y))) H
      | .LtE=>Q (.bool (decide (x≤y))) H
      | .Gt=>Q (.bool (decide (y < x))) H
      | .GtE=>Q (.bool (decide (y≤x))) H
      | _=>False
    | _,_=>False
noncomputable def wsub (a i:AV) (Q:AV→Zaa→Prop) (H:Zaa):Prop :=
  match a,i with
  | .ref a,.int i=>match H a with
    | some (.list xs)=>∃ j v,Zfy xs.length i=some j∧i < 2 ^ 63∧-(2 ^ 63)≤i∧xs[j]? = some v∧Q v H
    | some (.tuple xs)=>∃ j v,Zfy xs.length i=some j∧i < 2 ^ 63∧-(2 ^ 63)≤i∧xs[j]? = some v∧Q v H
    | some (.script ns)=>0≤i∧i < 2 ^ 63∧∃ n,ns[i.toNat]? = some n∧Q (.int n) H
    | _=>False
  | .ref a,.str k=>match H a with
    | some (.dict _ es)=>∃ v,Zbx es k=some v∧Q v H
    | _=>False
  | .str s,.int i=>0≤i∧i < 2 ^ 63∧∃ ch,s.cps[i.toNat]? = some ch∧Q (.str ⟨#[ch]⟩) H
  | _,_=>False
noncomputable def Zgn {α:Type} (xs:List α) (lo hi st:Option Int):List α :=
  (sliceRange (sliceBounds lo hi st xs.length).1 (sliceBounds lo hi st xs.length).2.1 (sliceBounds lo hi st xs.length).2.2).filterMap (xs[·]?)
noncomputable def Zh7:Option AV→Option (Option Int)
  | none=>some none
  | some (.int i)=>some (some i)
  | _=>none
noncomputable def Zg2 (a:AV) (lo hi st:Option AV) (Q:AV→Zaa→Prop) (H:Zaa):Prop :=
  match a with
  | .ref a=>(match H a with
    | some (.list xs)=>∃ l u t,Zh7 lo=some l∧Zh7 hi=some u∧Zh7 st=some t∧t≠some 0∧xs.length≤sizeLine∧∀ z,H z=none→Q (.ref z) (up H z (.list (Zgn xs l u t)))
    | _=>False)
  | .str s=>(match lo,hi,st with
    | some (.int l),none,none=>0≤l∧l≤s.length∧s.length≤sizeLine∧Q (.str ⟨(s.cps.toList.drop l.toNat).toArray⟩) H
    | none,some (.int u),none=>0≤u∧u≤s.length∧s.length≤sizeLine∧Q (.str ⟨(s.cps.toList.take u.toNat).toArray⟩) H
    | _,_,_=>False)
  | _=>False
noncomputable def Zgm (H:Zaa) (v:AV):Option String :=
  match v with
  | .none=>some "NoneType"
  | .bool _=>some "bool"
  | .int _=>some "int"
  | .str _=>some "str"
  | .ref a=>match H a with
    | some (.list _)=>some "list"
    | some (.tuple _)=>some "tuple"
    | some (.dict ..)=>some "dict"
    | _=>none
noncomputable def Zd5 (P:Pg) (H:Zaa) (v:AV) (ty:String):Option Bool :=
  if ty = "int"∨ty = "bool"∨ty = "str"∨ty = "list" then (Zgm H v).map fun k=>k == ty || (k == "bool" && ty == "int")
  else none
noncomputable def onV1 (vs:List AV) (k:AV→Prop):Prop:=match vs with
  | []=>False
  | v :: r=>match r with
    | []=>k v
    | _ :: _=>False
noncomputable def atL (o:AV) (H:Zaa) (k:Addr→List AV→Prop):Prop:=match o with
  | .ref p=>(match H p with
    | some (.list xs)=>k p xs
    | _=>False)
  | _=>False
noncomputable def atD (o:AV) (H:Zaa) (k:Addr→List (Str×AV)→Prop):Prop:=match o with
  | .ref p=>(match H p with
    | some (.dict _ es)=>k p es
    | _=>False)
  | _=>False
noncomputable def wlen (v:AV) (Q:AV→Zaa→Prop) (H:Zaa):Prop:=match v with
  | .str s=>s.length < 2 ^ 62∧Q (.int s.length) H
  | .ref a=>(match H a with
      | some (.list xs)=>xs.length < 2 ^ 62∧Q (.int xs.length) H
      | some (.tuple xs)=>xs.length < 2 ^ 62∧Q (.int xs.length) H
      | some (.dict _ es)=>es.length < 2 ^ 62∧Q (.int es.length) H
      | some (.script ns)=>ns.length < 2 ^ 62∧Q (.int ns.length) H
      | _=>False)
  | _=>False
noncomputable def Zxk (md:Bool) (v:AV) (Q:AV→Zaa→Prop) (H:Zaa):Prop:=match v with
  | .ref a=>(match H a with
      | some (.list xs)=>xs.length≤sizeLine∧∀ z,H z=none→Q (.ref z) (up H z (.list xs))
      | some (.tuple xs)=>xs.length≤sizeLine∧∀ z,H z=none→Q (.ref z) (up H z (.list xs))
      | some (.vals d)=>(match H d with
        | some (.dict _ es)=>md=true∧es.length≤sizeLine∧∀ z,H z=none→Q (.ref z) (up H z (.list (es.map (·.2))))
        | _=>False)
      | _=>False)
  | _=>False
noncomputable def wsum (v:AV) (Q:AV→Zaa→Prop) (H:Zaa):Prop:=match v with
  | .ref a=>(match H a with
      | some (.list xs)=>∃ ns:List Int,xs=ns.map .int∧Q (.int ns.sum) H
      | _=>False)
  | _=>False
noncomputable def on1i (a:AV) (k:Int→Prop):Prop:=match a with
  | .int x=>k x
  | _=>False
noncomputable def wi2 (vs:List AV) (k:Int→Int→Prop):Prop:=match vs with
  | []=>False
  | a :: r=>onV1 r fun b=>wii a b k
noncomputable def wi3 (vs:List AV) (k:Int→Int→Int→Prop):Prop:=match vs with
  | []=>False
  | a :: r=>on1i a fun x=>wi2 r (k x)
noncomputable def Zdz (md:Bool) (f:Pr) (vs:List AV) (Q:AV→Zaa→Prop) (H:Zaa):Prop :=
  match f with
  | .len=>onV1 vs fun v=>wlen v Q H
  | .list=>onV1 vs fun v=>Zxk md v Q H
  | .range=>match vs with
    | []=>False
    | a :: r=>match r with
      | []=>on1i a fun b=>(-(2 ^ 62) < b∧b < 2 ^ 62)∧∀ z,H z=none→Q (.ref z) (up H z (.range 0 b))
      | _ :: _=>onV1 r fun b=>wii a b fun a b=>(-(2 ^ 62) < a∧a < 2 ^ 62∧-(2 ^ 62) < b∧b < 2 ^ 62)∧∀ z,H z=none→Q (.ref z) (up H z (.range a b))
  | .sum=>onV1 vs fun v=>md=true∧wsum v Q H
  | .min=>wi2 vs fun a b=>md=true∧Q (.int (if b < a then b else a)) H
  | .min3=>wi3 vs fun a b c=>md=true∧Q (.int (min a (min b c))) H
  | _=>False
noncomputable def bookAttrs:List String:=["day","free","aside","pacts"]
noncomputable def wbm (o:AV) (m:BM) (vs:List AV) (Q:AV→Zaa→Prop) (H:Zaa):Prop :=
  match m with
  | .append=>onV1 vs fun v=>atL o H fun p xs=>xs.length≤sizeLine∧Q .none (up H p (.list (xs ++ [v])))
  | .clear=>match vs with
    | []=>atL o H fun p xs=>xs.length≤sizeLine∧Q .none (up H p (.list []))
    | _ :: _=>False
  | .index=>onV1 vs fun v=>atL o H fun _ xs=>xs.length < 2 ^ 62∧∃ d ds,RD H v d∧RDs H xs ds∧okD d∧Zd8 ds=true∧∃ k,ds.findIdx? (fun y=>PyData.eqv y d)=some k∧Q (.int k) H
  | .values=>match vs with
    | []=>atD o H fun p _=>∀ z,H z=none→Q (.ref z) (up H z (.vals p))
    | _ :: _=>False
  | .pop=>onV1 vs fun v=>match v with
    | .str k=>atD o H fun p es=>es.length≤sizeLine∧∃ v,Zbx es k=some v∧∀ ep,Q v (up H p (.dict ep (es.filter fun e=>e.1≠k)))
    | _=>False
  | _=>False
noncomputable def Zas (H:Zaa):AV→Option (List AV)
  | .ref a=>match H a with
    | some (.list xs)=>some xs
    | some (.tuple xs)=>some xs
    | some (.range lo hi)=>some ((List.range (hi - lo).toNat).map fun (k:Nat)=>AV.int (lo + k))
    | _=>none
  | .str s=>some (s.cps.toList.map fun ch=>AV.str ⟨#[ch]⟩)
  | _=>none
noncomputable def Zdu (H H':Zaa):AV→Prop
  | .ref a=>H' a=H a
  | _=>True
noncomputable def WFor (QN:VV→Zaa→Prop) (stp:AV→(VV→Zaa→Prop)→VV→Zaa→Prop) (v:AV) (V:VV) (H:Zaa):Prop :=
  ∃ xs,Zas H v=some xs∧∃ I:Nat→VV→Zaa→Prop,I 0 V H ∧
    ∀ k V' H',I k V' H'→Zdu H H' v∧(k=xs.length→QN V' H')∧∀ x,xs[k]? = some x→stp x (I (k + 1)) V' H'
noncomputable def Zrw (QN:VV→Zaa→Prop) (tst:(Bool→Zaa→Prop)→VV→Zaa→Prop) (bd:(VV→Zaa→Prop)→VV→Zaa→Prop) (V:VV) (H:Zaa):Prop :=
  ∃ I:Nat→VV→Zaa→Prop,(∃ n,I n V H)∧∀ n V' H',I n V' H'→tst (fun b H''=>if b then bd (fun V2 H₂=>∃ m,m < n∧I m V2 H₂) V' H'' else QN V' H'') V' H'
noncomputable def Zk7 (Q:AV→Zaa→Prop) (stp:AV→(Option AV→Zaa→Prop)→Zaa→Prop) (v:AV) (H:Zaa):Prop :=
  ∃ xs,Zas H v=some xs∧xs.length≤sizeLine∧∃ I:Nat→List AV→Zaa→Prop,I 0 [] H ∧
    ∀ k acc H',I k acc H'→Zdu H H' v∧(k=xs.length→∀ a,H' a=none→Q (.ref a) (up H' a (.list acc))) ∧
      ∀ x,xs[k]? = some x→stp x (fun r H''=>I (k + 1) (acc ++ r.toList) H'') H'
noncomputable def Zb4 (k:Nat) (x:AV) (H:Zaa) (Q:List AV→Prop):Prop :=
  match x with
  | .ref a=>match H a with
    | some (.tuple xs)=>xs.length=k∧Q xs
    | some (.list xs)=>xs.length=k∧Q xs
    | _=>False
  | _=>False
noncomputable def Zid (V:VV):List Nat→List AV→VV
  | i :: is,x :: xs=>Zid (V.set i (some x)) is xs
  | _,_=>V
noncomputable def wtg (t:Tg) (x:AV) (V:VV) (H:Zaa) (Q:VV→Prop):Prop :=
  match t with
  | .var i=>i < V.length∧Q (V.set i (some x))
  | .tup is=>Zb4 is.length x H fun xs=>Q (Zid V is xs)
noncomputable def bmOn (m:BM) (x:AV) (H:Zaa):Prop :=
  match x with
  | .str _=>m = .upper
  | .ref p=>match H p with
    | some (.list _)=>m = .append∨m = .clear∨m = .index∨m = .count
    | some (.dict _ _)=>m = .values∨m = .pop
    | _=>False
  | _=>False
set_option genInjectivity false in
structure Gx where
  c:Cx
  n:Nat
  md:Bool
noncomputable def Zr6 (P:Pg) (n:String) (x:AV) (Q:AV→Zaa→Prop) (H:Zaa):Prop:=match x with
  | .ref p=>(match H p with
    | some (.inst cl es)=>P.attrs.contains (cl,n)=true∧(match Zd3 es n with | some v=>Q v H | none=>False)
    | some (.book B)=>n = "day"∧P.attrs.contains ("Book","day")=true∧Q (.int B.day) H
    | _=>False)
  | _=>False
noncomputable def Zr4 (P:Pg) (m:String) (x:AV) (K:String→Addr→Zaa→Prop) (H:Zaa):Prop:=match x with
  | .ref p=>(match H p with
    | some (.inst cl es)=>P.meths.contains (cl,m)=true∧Zd3 es m=none∧K (cl ++ "." ++ m) p H
    | some (.book _)=>P.meths.contains ("Book",m)=true∧bookAttrs.contains m=false∧K ("Book." ++ m) p H
    | _=>False)
  | _=>False
noncomputable def wisi (P:Pg) (ty:String) (x:AV) (Q:AV→Zaa→Prop) (H:Zaa):Prop:=match Zd5 P H x ty with
  | some b=>Q (.bool b) H
  | none=>False
noncomputable def Zjr (o j x:AV) (Q:Zaa→Prop) (H:Zaa):Prop:=match o,j with
  | .ref p,.str k=>(match H p with
    | some (.dict _ es)=>es.length≤sizeLine∧∀ ep,Q (up H p (.dict ep (putS es k x)))
    | _=>False)
  | .ref p,.int j=>(match H p with
    | some (.list xs)=>0≤j∧j < xs.length∧xs.length < 2 ^ 62∧Q (up H p (.list (xs.set j.toNat x)))
    | _=>False)
  | _,_=>False
noncomputable def Zz4 (P:Pg) (n:String) (o x:AV) (Q:Zaa→Prop) (H:Zaa):Prop:=match o with
  | .ref p=>(match H p with
    | some (.inst cl es)=>P.attrs.contains (cl,n)=true∧es.length≤100∧Q (up H p (.inst cl (putA es n x)))
    | _=>False)
  | _=>False
mutual
noncomputable def wpX (g:Gx):X→VV→(AV→Zaa→Prop)→(String→Zaa→Prop)→Zaa→Prop
  | .lit v,_,Q,_,H=>Q v H
  | .var i,V,Q,_,H=>match V[i]? with
    | some (some v)=>Q v H
    | _=>False
  | .glob n,_,Q,_,H=>match g.c.P.consts.lookup n with
    | some v=>Q v H
    | none=>False
  | .bin op a b,V,Q,E,H=>wpX g a V (fun x H=>wpX g b V (fun y H=>wbin op x y Q H) E H) E H
  | .neg a,V,Q,E,H=>wpX g a V (fun x H=>match x with | .int i=>Q (.int (-i)) H | _=>False) E H
  | .not a,V,Q,E,H=>wpX g a V (fun x H=>Zbp x H fun b=>Q (.bool (!b)) H) E H
  | .ao isAnd xs,V,Q,E,H=>wpAO g isAnd xs V Q E H
  | .cmp op a b,V,Q,E,H=>wpX g a V (fun x H=>wpX g b V (fun y H=>wcmp op x y Q H) E H) E H
  | .cmp2 op1 op2 a b d,V,Q,E,H=>wpX g a V (fun x H=>wpX g b V (fun y H=>wcmp op1 x y (fun r H=>Zbp r H fun t =>
      if t then wpX g d V (fun z H=>wcmp op2 y z Q H) E H else Q r H) H) E H) E H
  | .sub a i,V,Q,E,H=>wpX g a V (fun x H=>wpX g i V (fun y H=>wsub x y Q H) E H) E H
  | .slice a lo hi st,V,Q,E,H=>wpX g a V (fun x H=>wpO g lo V (fun l H=>wpO g hi V (fun u H=>wpO g st V (fun t H=>Zg2 x l u t Q H) E H) E H) E H) E H
  | .attr a n,V,Q,E,H=>wpX g a V (fun x H=>Zr6 g.c.P n x Q H) E H
  | .call f xs,V,Q,E,H=>wpXs g xs V (fun vs H=>CallOK g.c g.n g.md f vs Q E H) E H
  | .new cl xs,V,Q,E,H=>wpXs g xs V (fun vs H=>∀ a,H a=none→CallOK g.c g.n g.md (cl ++ ".__init__") (.ref a :: vs) (fun r H=>r = .none∧Q (.ref a) H) E (up H a (.inst cl []))) E H
  | .meth a m xs,V,Q,E,H=>wpX g a V (fun x H=>Zr4 g.c.P m x (fun f p H=>wpXs g xs V (fun vs H=>CallOK g.c g.n g.md f (.ref p :: vs) Q E H) E H) H) E H
  | .bm a m xs,V,Q,E,H=>wpX g a V (fun x H=>bmOn m x H∧wpXs g xs V (fun vs H=>wbm x m vs Q H) E H) E H
  | .prim f xs,V,Q,E,H=>wpXs g xs V (fun vs H=>Zdz g.md f vs Q H) E H
  | .isinst a ty,V,Q,E,H=>wpX g a V (fun x H=>wisi g.c.P ty x Q H) E H
  | .list xs,V,Q,E,H=>wpXs g xs V (fun vs H=>∀ a,H a=none→Q (.ref a) (up H a (.list vs))) E H
  | .tuple xs,V,Q,E,H=>wpXs g xs V (fun vs H=>∀ a,H a=none→Q (.ref a) (up H a (.tuple vs))) E H
  | .dict ks vs,V,Q,E,H=>match ks,vs with
    | [],[]=>∀ a,H a=none→Q (.ref a) (up H a (.dict 0 []))
    | [k],[v]=>wpX g k V (fun k H=>wpX g v V (fun v H=>match k with | .str k=>∀ a ep,H a=none→Q (.ref a) (up H a (.dict ep [(k,v)])) | _=>False) E H) E H
    | _,_=>False
  | .comp e k tup it c,V,Q,E,H=>g.md=true∧wpX g it V (fun v H=>Zk7 Q (fun x nx H =>
      if tup then Zb4 k x H fun xs=>wpC g c (V ++ xs.map some) (fun b H=>if b then wpX g e (V ++ xs.map some) (fun y H=>nx (some y) H) (fun _ _=>False) H else nx none H) (fun _ _=>False) H
      else wpC g c (V ++ [some x]) (fun b H=>if b then wpX g e (V ++ [some x]) (fun y H=>nx (some y) H) (fun _ _=>False) H else nx none H) (fun _ _=>False) H) v H) E H
noncomputable def wpXs (g:Gx):List X→VV→(List AV→Zaa→Prop)→(String→Zaa→Prop)→Zaa→Prop
  | [],_,Q,_,H=>Q [] H
  | x :: r,V,Q,E,H=>wpX g x V (fun v H=>wpXs g r V (fun vs H=>Q (v :: vs) H) E H) E H
noncomputable def wpAO (g:Gx) (isAnd:Bool):List X→VV→(AV→Zaa→Prop)→(String→Zaa→Prop)→Zaa→Prop
  | [],_,_,_,_=>False
  | x :: r,V,Q,E,H=>wpX g x V (fun v H=>match r with
      | []=>Q v H
      | _ :: _=>Zbp v H fun b=>if b=isAnd then wpAO g isAnd r V Q E H else Q v H) E H
noncomputable def wpO (g:Gx):Option X→VV→(Option AV→Zaa→Prop)→(String→Zaa→Prop)→Zaa→Prop
  | none,_,Q,_,H=>Q none H
  | some x,V,Q,E,H=>wpX g x V (fun v H=>Q (some v) H) E H
noncomputable def wpC (g:Gx):Option X→VV→(Bool→Zaa→Prop)→(String→Zaa→Prop)→Zaa→Prop
  | none,_,Q,_,H=>Q true H
  | some x,V,Q,E,H=>wpX g x V (fun v H=>Zbp v H fun b=>Q b H) E H
end
noncomputable def wpT (g:Gx) (t:T) (x:AV) (V:VV) (Q:VV→Zaa→Prop) (E:String→Zaa→Prop) (H:Zaa):Prop :=
  match t with
  | .var i=>i < V.length∧Q (V.set i (some x)) H
  | .tup is=>g.md=true∧Zb4 is.length x H fun xs=>Q (Zid V is xs) H
  | .sub a i=>wpX g a V (fun o H=>wpX g i V (fun j H=>Zjr o j x (Q V) H) E H) E H
  | .attr a n=>wpX g a V (fun o H=>Zz4 g.c.P n o x (Q V) H) E H
noncomputable def Ziv (P:Pg) (cl c:String):Bool:=((P.excs.lookup cl).map (·.contains c)).getD false
mutual
noncomputable def wpS (g:Gx):S→(VV→Zaa→Prop)→(AV→Zaa→Prop)→(String→VV→Zaa→Prop)→VV→Zaa→Prop
  | .assign t e,QN,_,E,V,H=>wpX g e V (fun x H=>wpT g t x V QN (fun cl H=>E cl V H) H) (fun cl H=>E cl V H) H
  | .expr e,QN,_,E,V,H=>wpX g e V (fun _ H=>QN V H) (fun cl H=>E cl V H) H
  | .ret e,_,QR,E,V,H=>wpX g e V QR (fun cl H=>E cl V H) H
  | .ite c a b,QN,QR,E,V,H=>wpX g c V (fun x H=>Zbp x H fun t=>if t then wpSs g a QN QR E V H else wpSs g b QN QR E V H) (fun cl H=>E cl V H) H
  | .while c body,QN,QR,E,V,H=>g.md=true∧Zrw QN (fun q V H=>wpX g c V (fun x H=>Zbp x H fun t=>q t H) (fun cl H=>E cl V H) H)
      (fun q V H=>wpSs g body q QR E V H) V H
  | .for t it body,QN,QR,E,V,H=>g.md=true∧wpX g it V (fun v H=>WFor QN (fun x nx V H=>wtg t x V H fun V=>wpSs g body nx QR E V H) v V H) (fun cl H=>E cl V H) H
  | .raise cl _,_,_,E,V,H=>g.md=true∧E cl V H
  | .try body hs,QN,QR,E,V,H=>g.md=true∧wpSs g body QN QR (fun cl V H=>wpHs g hs cl QN QR E V H) V H
  | .pass,QN,_,_,V,H=>QN V H
noncomputable def wpSs (g:Gx):List S→(VV→Zaa→Prop)→(AV→Zaa→Prop)→(String→VV→Zaa→Prop)→VV→Zaa→Prop
  | [],QN,_,_,V,H=>QN V H
  | s :: r,QN,QR,E,V,H=>wpS g s (fun V H=>wpSs g r QN QR E V H) QR E V H
noncomputable def wpHs (g:Gx):List Hd→String→(VV→Zaa→Prop)→(AV→Zaa→Prop)→(String→VV→Zaa→Prop)→VV→Zaa→Prop
  | [],_,_,_,_,_,_=>False
  | h :: r,cl,QN,QR,E,V,H=>wpH g h cl (wpHs g r cl QN QR E V H) QN QR E V H
noncomputable def wpH (g:Gx):Hd→String→Prop→(VV→Zaa→Prop)→(AV→Zaa→Prop)→(String→VV→Zaa→Prop)→VV→Zaa→Prop
  | .mk c nm b,cl,nope,QN,QR,_,V,H =>
    if Ziv g.c.P cl c then
      (match nm with
      | none=>wpSs { g with md:=false } b QN QR (fun _ _ _=>False) V H
      | some i=>∀ a,H a=none→i < V.length∧wpSs { g with md:=false } b (fun V H=>QN (V.set i none) H) QR (fun _ _ _=>False) (V.set i (some (.ref a))) (up H a (.exc cl)))
    else nope
end
section
variable {g:Gx} {V:VV} {Q:AV→Zaa→Prop} {E:String→Zaa→Prop} {H:Zaa} {QL:List AV→Zaa→Prop}
theorem v_0 {x:Option AV} {r:VV}:(x :: r)[0]? = some x:=rfl
theorem Zah {v:AV}:wpX g (.lit v) V Q E H=Q v H:=rfl
theorem Zae {i:Nat}:wpX g (.var i) V Q E H=(match V[i]? with | some (some v)=>Q v H | _=>False):=rfl
theorem Zau {op:Operator} {a b:X}:wpX g (.bin op a b) V Q E H=wpX g a V (fun x H=>wpX g b V (fun y H=>wbin op x y Q H) E H) E H:=rfl
theorem Zbq {a:X}:wpX g (.neg a) V Q E H=wpX g a V (fun x H=>match x with | .int i=>Q (.int (-i)) H | _=>False) E H:=rfl
theorem Zbb {a:X}:wpX g (.not a) V Q E H=wpX g a V (fun x H=>Zbp x H fun b=>Q (.bool (!b)) H) E H:=rfl
theorem x_ao {b:Bool} {xs:List X}:wpX g (.ao b xs) V Q E H=wpAO g b xs V Q E H:=rfl
theorem Zap {op:CmpOp} {a b:X}:wpX g (.cmp op a b) V Q E H=wpX g a V (fun x H=>wpX g b V (fun y H=>wcmp op x y Q H) E H) E H:=rfl
theorem Za1 {o₁ o₂:CmpOp} {a b d:X}:wpX g (.cmp2 o₁ o₂ a b d) V Q E H=wpX g a V (fun x H=>wpX g b V (fun y H=>wcmp o₁ x y (fun r H=>Zbp r H fun t=>if t then wpX g d V (fun z H=>wcmp o₂ y z Q H) E H else Q r H) H) E H) E H:=rfl
theorem Zar {a i:X}:wpX g (.sub a i) V Q E H=wpX g a V (fun x H=>wpX g i V (fun y H=>wsub x y Q H) E H) E H:=rfl
theorem Zav {a:X} {lo hi st:Option X}:wpX g (.slice a lo hi st) V Q E H=wpX g a V (fun x H=>wpO g lo V (fun l H=>wpO g hi V (fun u H=>wpO g st V (fun t H=>Zg2 x l u t Q H) E H) E H) E H) E H:=rfl
theorem Za0 {n:String}:wpX g (.glob n) V Q E H=(match g.c.P.consts.lookup n with | some v=>Q v H | none=>False):=rfl
theorem Zam {f:String} {xs:List X}:wpX g (.call f xs) V Q E H=wpXs g xs V (fun vs H=>CallOK g.c g.n g.md f vs Q E H) E H:=rfl
theorem Zak {f:Pr} {xs:List X}:wpX g (.prim f xs) V Q E H=wpXs g xs V (fun vs H=>Zdz g.md f vs Q H) E H:=rfl
theorem x_bm {a:X} {m:BM} {xs:List X}:wpX g (.bm a m xs) V Q E H=wpX g a V (fun x H=>bmOn m x H∧wpXs g xs V (fun vs H=>wbm x m vs Q H) E H) E H:=rfl
theorem Zbo {a:X} {ty:String}:wpX g (.isinst a ty) V Q E H=wpX g a V (fun x H=>match Zd5 g.c.P H x ty with | some b=>Q (.bool b) H | none=>False) E H:=rfl
theorem Zaw {xs:List X}:wpX g (.list xs) V Q E H=wpXs g xs V (fun vs H=>∀ a,H a=none→Q (.ref a) (up H a (.list vs))) E H:=rfl
theorem Zbc {xs:List X}:wpX g (.tuple xs) V Q E H=wpXs g xs V (fun vs H=>∀ a,H a=none→Q (.ref a) (up H a (.tuple vs))) E H:=rfl
theorem Zcl {cl:String} {xs:List X}:wpX g (.new cl xs) V Q E H=wpXs g xs V (fun vs H=>∀ a,H a=none→CallOK g.c g.n g.md (cl ++ ".__init__") (.ref a :: vs) (fun r H=>r = .none∧Q (.ref a) H) E (up H a (.inst cl []))) E H:=rfl
theorem Zao:wpX g (.dict [] []) V Q E H=(∀ a,H a=none→Q (.ref a) (up H a (.dict 0 []))):=rfl
theorem Zaf:wpXs g [] V QL E H=QL [] H:=rfl
theorem Zac {x:X} {r:List X}:wpXs g (x :: r) V QL E H=wpX g x V (fun v H=>wpXs g r V (fun vs H=>QL (v :: vs) H) E H) E H:=rfl
theorem Zba {b:Bool} {x:X}:wpAO g b [x] V Q E H=wpX g x V Q E H:=rfl
theorem Zaz {b:Bool} {x y:X} {r:List X}:wpAO g b (x :: y :: r) V Q E H=wpX g x V (fun v H=>Zbp v H fun t=>if t=b then wpAO g b (y :: r) V Q E H else Q v H) E H:=rfl
theorem Zbv {QO:Option AV→Zaa→Prop}:wpO g none V QO E H=QO none H:=rfl
theorem Zbs {QO:Option AV→Zaa→Prop} {x:X}:wpO g (some x) V QO E H=wpX g x V (fun v H=>QO (some v) H) E H:=rfl
theorem Zbj {QC:Bool→Zaa→Prop}:wpC g none V QC E H=QC true H:=rfl
theorem Zbn {QC:Bool→Zaa→Prop} {x:X}:wpC g (some x) V QC E H=wpX g x V (fun v H=>Zbp v H fun b=>QC b H) E H:=rfl
end
section
variable {g:Gx} {V:VV} {QN:VV→Zaa→Prop} {QR:AV→Zaa→Prop} {E:String→VV→Zaa→Prop} {EE:String→Zaa→Prop} {H:Zaa} {x:AV}
theorem tv {i:Nat}:wpT g (.var i) x V QN EE H=(i < V.length∧QN (V.set i (some x)) H):=rfl
theorem tsub {a i:X}:wpT g (.sub a i) x V QN EE H=wpX g a V (fun o H=>wpX g i V (fun j H=>match o,j with
      | .ref p,.str k=>(match H p with
        | some (.dict _ es)=>es.length≤sizeLine∧∀ ep,QN V (up H p (.dict ep (putS es k x)))
        | _=>False)
      | .ref p,.int j=>(match H p with
        | some (.list xs)=>0≤j∧j < xs.length∧xs.length < 2 ^ 62∧QN V (up H p (.list (xs.set j.toNat x)))
        | _=>False)
      | _,_=>False) EE H) EE H:=rfl
theorem tattr {a:X} {n:String}:wpT g (.attr a n) x V QN EE H=wpX g a V (fun o H=>match o with
      | .ref p=>(match H p with
        | some (.inst cl es)=>g.c.P.attrs.contains (cl,n)=true∧es.length≤100∧QN V (up H p (.inst cl (putA es n x)))
        | _=>False)
      | _=>False) EE H:=rfl
theorem ttup {is:List Nat}:wpT g (.tup is) x V QN EE H=(g.md=true∧Zb4 is.length x H fun xs=>QN (Zid V is xs) H):=rfl
theorem Zal {e:X}:wpS g (.expr e) QN QR E V H=wpX g e V (fun _ H=>QN V H) (fun cl H=>E cl V H) H:=rfl
theorem Za4 {cl:String} {m:Str}:wpS g (.raise cl m) QN QR E V H=(g.md=true∧E cl V H):=rfl
theorem Zbd {t:Tg} {it:X} {b:List S}:wpS g (.for t it b) QN QR E V H=(g.md=true∧wpX g it V (fun v H=>WFor QN (fun x nx V H=>wtg t x V H fun V=>wpSs g b nx QR E V H) v V H) (fun cl H=>E cl V H) H):=rfl
theorem Zbu {cn:X} {b:List S}:wpS g (.while cn b) QN QR E V H=(g.md=true∧Zrw QN (fun q V H=>wpX g cn V (fun x H=>Zbp x H fun t=>q t H) (fun cl H=>E cl V H) H) (fun q V H=>wpSs g b q QR E V H) V H):=rfl
theorem Zdp {b:List S} {hs:List Hd}:wpS g (.try b hs) QN QR E V H=(g.md=true∧wpSs g b QN QR (fun cl V H=>wpHs g hs cl QN QR E V H) V H):=rfl
end
section
variable {g:Gx} {V:VV} {Q:AV→Zaa→Prop} {E:String→Zaa→Prop} {H:Zaa}
theorem Za3 {a:X} {n:String}:wpX g (.attr a n) V Q E H=wpX g a V (fun x H=>match x with
      | .ref p=>(match H p with
        | some (.inst cl es)=>g.c.P.attrs.contains (cl,n)=true∧(match Zd3 es n with | some v=>Q v H | none=>False)
        | some (.book B)=>n = "day"∧g.c.P.attrs.contains ("Book","day")=true∧Q (.int B.day) H
        | _=>False)
      | _=>False) E H:=rfl
theorem Zbg {a:X} {m:String} {xs:List X}:wpX g (.meth a m xs) V Q E H=wpX g a V (fun x H=>match x with
      | .ref p=>(match H p with
        | some (.inst cl es)=>g.c.P.meths.contains (cl,m)=true∧Zd3 es m=none∧wpXs g xs V (fun vs H=>CallOK g.c g.n g.md (cl ++ "." ++ m) (.ref p :: vs) Q E H) E H
        | some (.book _)=>g.c.P.meths.contains ("Book",m)=true∧bookAttrs.contains m=false∧wpXs g xs V (fun vs H=>CallOK g.c g.n g.md ("Book." ++ m) (.ref p :: vs) Q E H) E H
        | _=>False)
      | _=>False) E H:=rfl
theorem Za7 {k v:X}:wpX g (.dict [k] [v]) V Q E H=wpX g k V (fun k H=>wpX g v V (fun v H=>match k with | .str k=>∀ a ep,H a=none→Q (.ref a) (up H a (.dict ep [(k,v)])) | _=>False) E H) E H:=rfl
theorem Za8 {e:X} {k:Nat} {tup:Bool} {it:X} {c:Option X}:wpX g (.comp e k tup it c) V Q E H=(g.md=true∧wpX g it V (fun v H=>Zk7 Q (fun x nx H =>
      if tup then Zb4 k x H fun xs=>wpC g c (V ++ xs.map some) (fun b H=>if b then wpX g e (V ++ xs.map some) (fun y H=>nx (some y) H) (fun _ _=>False) H else nx none H) (fun _ _=>False) H
      else wpC g c (V ++ [some x]) (fun b H=>if b then wpX g e (V ++ [some x]) (fun y H=>nx (some y) H) (fun _ _=>False) H else nx none H) (fun _ _=>False) H) v H) E H):=rfl
end
section
variable {g:Gx} {QN:VV→Zaa→Prop} {QR:AV→Zaa→Prop} {E:String→VV→Zaa→Prop} {V:VV} {H:Zaa}
theorem Zay {c:X} {a b:List S}:wpS g (.ite c a b) QN QR E V H=wpX g c V (fun x H=>Zbp x H fun t=>if t then wpSs g a QN QR E V H else wpSs g b QN QR E V H) (fun cl H=>E cl V H) H:=rfl
theorem Zbt {e:X}:wpS g (.ret e) QN QR E V H=wpX g e V QR (fun cl H=>E cl V H) H:=rfl
theorem Zaj {t:T} {e:X}:wpS g (.assign t e) QN QR E V H=wpX g e V (fun x H=>wpT g t x V QN (fun cl H=>E cl V H) H) (fun cl H=>E cl V H) H:=rfl
theorem w_st {s:S} {r:List S} (h:∀ K:VV→Zaa→Prop,(∀ V H,wpSs g r QN QR E V H→K V H)→wpS g s K QR E V H):wpSs g (s :: r) QN QR E V H:=h _ fun _ _ h=>h
theorem Zb0:wpSs g [] QN QR E V H=QN V H:=rfl
theorem Zax {s:S} {r:List S}:wpSs g (s :: r) QN QR E V H=wpS g s (fun V H=>wpSs g r QN QR E V H) QR E V H:=rfl
theorem Zct:wpS g .pass QN QR E V H=QN V H:=rfl
theorem Zm3 {h:Hd} {r:List Hd} {cl:String}:wpHs g (h :: r) cl QN QR E V H=wpH g h cl (wpHs g r cl QN QR E V H) QN QR E V H:=rfl
theorem Zzm {c:String} {nm:Option Nat} {b:List S} {cl:String} {N:Prop}:wpH g (.mk c nm b) cl N QN QR E V H=(if Ziv g.c.P cl c then
      (match nm with
      | none=>wpSs { g with md:=false } b QN QR (fun _ _ _=>False) V H
      | some i=>∀ a,H a=none→i < V.length∧wpSs { g with md:=false } b (fun V H=>QN (V.set i none) H) QR (fun _ _ _=>False) (V.set i (some (.ref a))) (up H a (.exc cl)))
    else N):=rfl
end
section
variable {md:Bool} {Q:AV→Zaa→Prop} {H:Zaa} {a p:Addr} {v:AV}
theorem Zj9 {s:Str}:Zdz md .len [.str s] Q H=(s.length < 2 ^ 62∧Q (.int s.length) H):=rfl
theorem Zho {b:Int}:Zdz md .range [.int b] Q H=((-(2 ^ 62) < b∧b < 2 ^ 62)∧∀ z,H z=none→Q (.ref z) (up H z (.range 0 b))):=rfl
theorem Zgx {a b:Int}:Zdz md .range [.int a,.int b] Q H=((-(2 ^ 62) < a∧a < 2 ^ 62∧-(2 ^ 62) < b∧b < 2 ^ 62)∧∀ z,H z=none→Q (.ref z) (up H z (.range a b))):=rfl
theorem Zyc {a b d:Int}:Zdz md .min3 [.int a,.int b,.int d] Q H=(md=true∧Q (.int (min a (min b d))) H):=rfl
theorem Zmh {s:Str} {i:Int}:wsub (.str s) (.int i) Q H=(0≤i∧i < 2 ^ 63∧∃ ch,s.cps[i.toNat]? = some ch∧Q (.str ⟨#[ch]⟩) H):=rfl
theorem Z0b {s:Str} {l:Int}:Zg2 (.str s) (some (.int l)) none none Q H=(0≤l∧l≤s.length∧s.length≤sizeLine∧Q (.str ⟨(s.cps.toList.drop l.toNat).toArray⟩) H):=rfl
theorem Z0c {s:Str} {u:Int}:Zg2 (.str s) none (some (.int u)) none Q H=(0≤u∧u≤s.length∧s.length≤sizeLine∧Q (.str ⟨(s.cps.toList.take u.toNat).toArray⟩) H):=rfl
theorem Zgc:Zdz md .len [.ref a] Q H=(match H a with
      | some (.list xs)=>xs.length < 2 ^ 62∧Q (.int xs.length) H
      | some (.tuple xs)=>xs.length < 2 ^ 62∧Q (.int xs.length) H
      | some (.dict _ es)=>es.length < 2 ^ 62∧Q (.int es.length) H
      | some (.script ns)=>ns.length < 2 ^ 62∧Q (.int ns.length) H
      | _=>False):=rfl
theorem Zf0:Zdz md .list [.ref a] Q H=(match H a with
      | some (.list xs)=>xs.length≤sizeLine∧∀ z,H z=none→Q (.ref z) (up H z (.list xs))
      | some (.tuple xs)=>xs.length≤sizeLine∧∀ z,H z=none→Q (.ref z) (up H z (.list xs))
      | some (.vals d)=>(match H d with
        | some (.dict _ es)=>md=true∧es.length≤sizeLine∧∀ z,H z=none→Q (.ref z) (up H z (.list (es.map (·.2))))
        | _=>False)
      | _=>False):=rfl
theorem Zhn:Zdz md .sum [.ref a] Q H=(md=true∧(match H a with
      | some (.list xs)=>∃ ns:List Int,xs=ns.map .int∧Q (.int ns.sum) H
      | _=>False)):=rfl
theorem Z0v:wbm (.ref p) .append [v] Q H=(match H p with
    | some (.list xs)=>xs.length≤sizeLine∧Q .none (up H p (.list (xs ++ [v])))
    | _=>False):=rfl
theorem Zyz:wbm (.ref p) .clear [] Q H=(match H p with
    | some (.list xs)=>xs.length≤sizeLine∧Q .none (up H p (.list []))
    | _=>False):=rfl
theorem Zyy:wbm (.ref p) .index [v] Q H=(match H p with
    | some (.list xs)=>xs.length < 2 ^ 62∧∃ d ds,RD H v d∧RDs H xs ds∧okD d∧Zd8 ds=true∧∃ k,ds.findIdx? (fun y=>PyData.eqv y d)=some k∧Q (.int k) H
    | _=>False):=rfl
theorem Zyw:wbm (.ref p) .values [] Q H=(match H p with
    | some (.dict _ _)=>∀ z,H z=none→Q (.ref z) (up H z (.vals p))
    | _=>False):=rfl
theorem Zyx {k:Str}:wbm (.ref p) .pop [.str k] Q H=(match H p with
    | some (.dict _ es)=>es.length≤sizeLine∧∃ v,Zbx es k=some v∧∀ ep,Q v (up H p (.dict ep (es.filter fun e=>e.1≠k)))
    | _=>False):=rfl
theorem Zxo {P:Bool→Prop}:Zbp (.ref a) H P=(match H a with
    | some (.list xs)=>xs.length < 2 ^ 62∧P (!xs.isEmpty)
    | some (.tuple xs)=>xs.length < 2 ^ 62∧P (!xs.isEmpty)
    | _=>False):=rfl
theorem Zfb {i:Int}:wsub (.ref a) (.int i) Q H=(match H a with
    | some (.list xs)=>∃ j v,Zfy xs.length i=some j∧i < 2 ^ 63∧-(2 ^ 63)≤i∧xs[j]? = some v∧Q v H
    | some (.tuple xs)=>∃ j v,Zfy xs.length i=some j∧i < 2 ^ 63∧-(2 ^ 63)≤i∧xs[j]? = some v∧Q v H
    | some (.script ns)=>0≤i∧i < 2 ^ 63∧∃ n,ns[i.toNat]? = some n∧Q (.int n) H
    | _=>False):=rfl
theorem Zhb {k:Str}:wsub (.ref a) (.str k) Q H=(match H a with
    | some (.dict _ es)=>∃ v,Zbx es k=some v∧Q v H
    | _=>False):=rfl
theorem Zui {lo hi st:Option AV}:Zg2 (.ref a) lo hi st Q H=(match H a with
    | some (.list xs)=>∃ l u t,Zh7 lo=some l∧Zh7 hi=some u∧Zh7 st=some t∧t≠some 0∧xs.length≤sizeLine∧∀ z,H z=none→Q (.ref z) (up H z (.list (Zgn xs l u t)))
    | _=>False):=rfl
theorem Zfr {no:Bool} {x:AV}:win no x (.ref a) Q H=(match H a with
    | some (.list ys)=>∃ d ds,RD H x d∧RDs H ys ds∧okD d∧Zd8 ds=true∧Q (.bool (nt no (ds.any fun y=>PyData.eqv y d))) H
    | some (.dict _ es)=>match x with
      | .str k=>Q (.bool (nt no (Zbx es k).isSome)) H
      | _=>False
    | _=>False):=rfl
theorem Zl0 {no:Bool} {x:AV} {s:Str}:win no x (.str s) Q H=(match x with
    | .str k=>∃ ch,k=⟨#[ch]⟩∧Q (.bool (nt no (s.cps.toList.contains ch))) H
    | _=>False):=rfl
end
theorem Zzq {x y:Str}:PyData.eqv (.str x) (.str y)=(x == y):=rfl
theorem Z02 {x y:List PyData}:PyData.eqv (.list x) (.list y)=PyData.eqvAll x y:=rfl
theorem Zzs {x y:PyData} {r q:List PyData}:PyData.eqvAll (x :: r) (y :: q)=(PyData.eqv x y && PyData.eqvAll r q):=rfl
end Mine
end
section
open PySem PySem.W PyProof.Rows PySem.Spec PySem.SeqAt
namespace Mine
theorem lts {h:Heap} {a:Addr} {o:Obj} (e:h.get? a=some o):@LT.lt Nat _ a h.objs.size:=Heap.lt_size e
theorem leN {a b:Nat} (h:a≤b):a≤b:=h
theorem Zad {H:Zaa} {a:Addr} {o:AObj}:up H a o a=some o:=by simp [up]
theorem Zab {H:Zaa} {a b:Addr} {o:AObj} (h:b≠a):up H a o b=H b:=by simp [up,h]
theorem Zaq {R:RR} {a:Addr} {r:Res}:rup R a r a=some r:=by simp [rup]
theorem Zag {R:RR} {a b:Addr} {r:Res} (h:b≠a):rup R a r b=R b:=by simp [rup,h]
theorem Zm6 {h:Heap} {a:Addr} (e:h.objs.size≤a):h.get? a=none:=by
  cases q:h.get? a with
  | none=>rfl
  | some o=>have:=lts q;have:=leN e;omega
theorem abv {c:Cx} {a:Addr} {o:AObj} (h:c.base.objs.size≤a):Abv c a o:=⟨fun _=>Zm6 h,fun _=>h⟩
theorem VRs.length {as vs} (h:VRs as vs):as.length=vs.length:=by
  induction h with
  | nil=>rfl
  | cons _ _ ih=>simp [ih]
theorem VRs.get {as vs} (h:VRs as vs):∀ {i:Nat} {a:AV},as[i]? = some a→∃ v,vs[i]? = some v∧VR a v:=by
  induction h with
  | nil=>intro i a e;simp at e
  | cons ha _ ih =>
    intro i a e
    cases i with
    | zero=>simp at e;subst e;exact ⟨_,by simp,ha⟩
    | succ i=>simp at e;obtain ⟨v,h1,h2⟩:=ih e;exact ⟨v,by simpa using h1,h2⟩
theorem VRs.append {as vs bs us} (h:VRs as vs) (k:VRs bs us):VRs (as ++ bs) (vs ++ us):=by
  induction h with
  | nil=>exact k
  | cons ha _ ih=>exact .cons ha ih
theorem VRs.one {a v} (h:VR a v):VRs [a] [v]:=.cons h .nil
theorem VRs.drop {as vs} (h:VRs as vs) (n:Nat):VRs (as.drop n) (vs.drop n):=by
  induction h generalizing n with
  | nil=>simp;exact .nil
  | cons ha hr ih=>cases n with
    | zero=>exact .cons ha hr
    | succ n=>exact ih n
theorem VRs.take {as vs} (h:VRs as vs) (n:Nat):VRs (as.take n) (vs.take n):=by
  induction h generalizing n with
  | nil=>simp;exact .nil
  | cons ha hr ih=>cases n with
    | zero=>exact .nil
    | succ n=>exact .cons ha (ih n)
theorem VRs.set {as vs} (h:VRs as vs) {a v} (hv:VR a v) (n:Nat):VRs (as.set n a) (vs.set n v):=by
  induction h generalizing n with
  | nil=>exact .nil
  | cons ha hr ih=>cases n with
    | zero=>exact .cons hv hr
    | succ n=>exact .cons ha (ih n)
theorem ORep.there {c:Cx} {h:Heap} {D:Addr→Addr} {a:Addr} {o:AObj} (r:ORep c h D a o):∃ ob,h.get? a=some ob:=by
  cases o with
  | book=>exact r.elim
  | list=>obtain ⟨_,_,e,_⟩:=r;exact ⟨_,e⟩
  | tuple=>obtain ⟨_,_,e,_⟩:=r;exact ⟨_,e⟩
  | dict=>obtain ⟨_,⟨_,_,e,_⟩,_⟩:=r;exact ⟨_,e⟩
  | inst=>exact ⟨_,r.1⟩
  | range=>obtain ⟨_,_,_,_,e⟩:=r;exact ⟨_,e⟩
  | vals=>exact ⟨_,r⟩
  | itms=>exact ⟨_,r⟩
  | exc=>obtain ⟨_,e,_⟩:=r;exact ⟨_,e⟩
  | script=>obtain ⟨_,_,e,_⟩:=r;exact ⟨_,e⟩
theorem ORep.agree {c:Cx} {h h':Heap} {D D':Addr→Addr} {a:Addr} {o:AObj} (r:ORep c h D a o) (e:∀ ob,h.get? a=some ob→h'.get? a=some ob)
    (e2:∀ cl es,o = .inst cl es→D' a=D a∧∀ ob,h.get? (D a)=some ob→h'.get? (D a)=some ob):ORep c h' D' a o:=by
  cases o with
  | book=>exact r.elim
  | list=>obtain ⟨vs,n,q,x⟩:=r;exact ⟨vs,n,e _ q,x⟩
  | tuple=>obtain ⟨vs,n,q,x⟩:=r;exact ⟨vs,n,e _ q,x⟩
  | dict=>obtain ⟨kvs,⟨o,es,q,x⟩,y⟩:=r;exact ⟨kvs,⟨o,es,e _ q,x⟩,y⟩
  | inst cl es =>
    obtain ⟨q,ents,n,q2,x⟩:=r
    obtain ⟨d1,d2⟩:=e2 cl es rfl
    exact ⟨by rw [d1];exact e _ q,ents,n,by rw [d1];exact d2 _ q2,x⟩
  | range=>obtain ⟨z,t,u,v,q⟩:=r;exact ⟨z,t,u,v,e _ q⟩
  | vals=>exact e _ r
  | itms=>exact e _ r
  | exc=>obtain ⟨o,q,x⟩:=r;exact ⟨o,e _ q,x⟩
  | script=>obtain ⟨vs,n,q,x⟩:=r;exact ⟨vs,n,e _ q,x⟩
theorem ResAt.agree {h h':Heap} {b:Addr} {r:Res} (x:ResAt h b r) (e:∀ ob,h.get? b=some ob→h'.get? b=some ob):ResAt h' b r:=by
  cases r with
  | ns m=>obtain ⟨o,es,ep,q,y⟩:=x;exact ⟨o,es,ep,e _ q,y⟩
  | cell v=>obtain ⟨o,q,y⟩:=x;exact ⟨o,e _ q,y⟩
  | obj o=>exact e _ x
theorem ResAt.there {h:Heap} {b:Addr} {r:Res} (x:ResAt h b r):∃ ob,h.get? b=some ob:=by
  cases r with
  | ns m=>obtain ⟨o,es,ep,q,y⟩:=x;exact ⟨o,q⟩
  | cell v=>obtain ⟨o,q,y⟩:=x;exact ⟨o,q⟩
  | obj o=>exact ⟨_,x⟩
section
variable {c:Cx} {R R':RR} {H:Zaa} {h h':Heap}
theorem St1.weaken (S:St1 c R' H h) (k:∀ b r,R b=some r→R' b=some r):St1 c R H h:=by
  obtain ⟨s1,s2,s3,D,s4⟩:=S
  have nn:∀ a,R' a=none→R a=none:=fun a e=>by
    cases q:R a with
    | none=>rfl
    | some r=>rw [k a r q] at e;cases e
  exact ⟨s1,s2,fun b r e=>s3 b r (k b r e),D,⟨s4.rep,fun a o e=>⟨(s4.above a o e).1,nn _ (s4.above a o e).2⟩,
    fun a cl es e=>⟨(s4.dict a cl es e).1,nn _ (s4.dict a cl es e).2.1,(s4.dict a cl es e).2.2⟩,s4.inj⟩⟩
theorem St1.keeps (S:St1 c R H h) (k:∀ b o,h.get? b=some o→h'.get? b=some o) (hs:h.objs.size≤h'.objs.size):St1 c R H h':=by
  obtain ⟨s1,s2,s3,D,s4⟩:=S
  exact ⟨fun b o e=>k b o (s1 b o e),Nat.le_trans s2 hs,fun b r e=>⟨(s3 b r e).1,(s3 b r e).2.agree fun _=>k _ _⟩,D,
    ⟨fun a o e=>(s4.rep a o e).agree (fun _=>k _ _) fun _ _ _=>⟨rfl,fun _=>k _ _⟩,s4.above,s4.dict,s4.inj⟩⟩
theorem St1.push (S:St1 c R H h) (o:Obj):St1 c R H (h.push o):=S.keeps (fun _ _ e=>Heap.get?_push_of_some o e) (by rw [Heap.size_push];lia)
theorem St1.freeH (S:St1 c R H h) {x:Addr} (hx:h.objs.size≤x):H x=none:=by
  cases q:H x with
  | none=>rfl
  | some o =>
    obtain ⟨D,s4⟩:=S.rep
    obtain ⟨ob,e⟩:=(s4.rep _ _ q).there
    have:=lts e;have:=leN hx;omega
theorem St1.freeR (S:St1 c R H h) {x:Addr} (hx:h.objs.size≤x):R x=none:=by
  cases q:R x with
  | none=>rfl
  | some o =>
    obtain ⟨ob,e⟩:=(S.res _ _ q).2.there
    have:=lts e;have:=leN hx;omega
theorem St1.newObj (S:St1 c R H h) {x:Addr} {o:AObj} (hx:h.objs.size≤x) (k:∀ b ob,h.get? b=some ob→h'.get? b=some ob) (hs:h.objs.size≤h'.objs.size)
    (hni:∀ cl es,o≠.inst cl es) (ho:∀ D,ORep c h' D x o):H x=none∧St1 c R (up H x o) h':=by
  refine ⟨S.freeH hx,?_⟩
  have hRx:=S.freeR hx
  have hb:=S.size
  have S':=S.keeps k hs
  obtain ⟨s1,s2,s3,D,s4⟩:=S'
  have hD:∀ a cl es,H a=some (.inst cl es)→D a≠x:=fun a cl es e q=>by
    obtain ⟨D0,s40⟩:=S.rep
    obtain ⟨q1,ents,n,q2,_⟩:=s4.rep a _ e
    obtain ⟨p1,ents',n',p2,_⟩:=s40.rep a _ e
    have:=k _ _ p1
    rw [q1] at this
    have hd:D a=D0 a:=by injection this with this;injection this with _ z;exact Option.some.inj z
    have hlt:=lts p2;have hx':=leN hx
    rw [← hd,q] at hlt;lia
  refine ⟨s1,s2,s3,D,⟨fun a ao e=>?_,fun a ao e=>?_,fun a cl es e=>?_,fun a b cl es cl' es' e e'=>?_⟩⟩
  · by_cases q:a=x
    · subst q;rw [Zad] at e;cases e;exact ho D
    · rw [Zab q] at e;exact s4.rep a ao e
  · by_cases q:a=x
    · subst q;exact ⟨abv (by have:=leN hx;lia),hRx⟩
    · rw [Zab q] at e;exact s4.above a ao e
  · by_cases q:a=x
    · subst q;rw [Zad] at e;cases e;exact absurd rfl (hni cl es)
    · rw [Zab q] at e
      obtain ⟨y1,y2,y3⟩:=s4.dict a cl es e
      exact ⟨y1,y2,by rw [Zab (hD a cl es e)];exact y3⟩
  · by_cases q:a=x
    · subst q;rw [Zad] at e;cases e;exact absurd rfl (hni cl es)
    · by_cases q':b=x
      · subst q';rw [Zad] at e';cases e';exact absurd rfl (hni cl' es')
      · rw [Zab q] at e;rw [Zab q'] at e';exact s4.inj a b cl es cl' es' e e'
theorem St1.newRes (S:St1 c R H h) {x:Addr} {r:Res} (hx:h.objs.size≤x) (k:∀ b ob,h.get? b=some ob→h'.get? b=some ob) (hs:h.objs.size≤h'.objs.size)
    (hr:ResAt h' x r):R x=none∧H x=none∧St1 c (rup R x r) H h':=by
  refine ⟨S.freeR hx,S.freeH hx,?_⟩
  have hHx:=S.freeH hx
  have hb:=S.size
  obtain ⟨D0,s40⟩:=S.rep
  have S':=S.keeps k hs
  obtain ⟨s1,s2,s3,D,s4⟩:=S'
  have hD:∀ a cl es,H a=some (.inst cl es)→D a≠x:=fun a cl es e q=>by
    obtain ⟨q1,ents,n,q2,_⟩:=s4.rep a _ e
    obtain ⟨p1,ents',n',p2,_⟩:=s40.rep a _ e
    have:=k _ _ p1
    rw [q1] at this
    have hd:D a=D0 a:=by injection this with this;injection this with _ z;exact Option.some.inj z
    have hlt:=lts p2;have hx':=leN hx
    rw [← hd,q] at hlt;lia
  refine ⟨s1,s2,fun b rr e=>?_,D,⟨s4.rep,fun a ao e=>?_,fun a cl es e=>?_,s4.inj⟩⟩
  · by_cases q:b=x
    · subst q;rw [Zaq] at e;cases e;exact ⟨by lia,hr⟩
    · rw [Zag q] at e;exact s3 b rr e
  · obtain ⟨y1,y2⟩:=s4.above a ao e
    exact ⟨y1,by rw [Zag (fun q=>by rw [q,hHx] at e;cases e)];exact y2⟩
  · obtain ⟨y1,y2,y3⟩:=s4.dict a cl es e
    exact ⟨y1,by rw [Zag (hD a cl es e)];exact y2,y3⟩
theorem St1.setRes (S:St1 c R H h) {x:Addr} {r r':Res} (hx:R x=some r) (hs:Heap.SameBut x h h') (hr:ResAt h' x r'):St1 c (rup R x r') H h':=by
  obtain ⟨s1,s2,s3,D,s4⟩:=S
  have bx:c.base.get? x=none:=by
    cases q:c.base.get? x with
    | none=>rfl
    | some o=>have:=lts q;have:=leN (s3 x r hx).1;lia
  refine ⟨fun b o e=>?_,by rw [hs.1];exact s2,fun b rr e=>?_,D,⟨fun a ao e=>?_,fun a ao e=>?_,fun a cl es e=>?_,s4.inj⟩⟩
  · rw [hs.2 b (fun q=>by rw [q,bx] at e;cases e)];exact s1 b o e
  · by_cases q:b=x
    · subst q;rw [Zaq] at e;cases e;exact ⟨(s3 b r hx).1,hr⟩
    · rw [Zag q] at e;exact ⟨(s3 b rr e).1,(s3 b rr e).2.agree fun ob z=>by rw [hs.2 b q];exact z⟩
  · refine (s4.rep a ao e).agree (fun ob z=>?_) fun cl es eo=>⟨rfl,fun ob z=>?_⟩
    · rw [hs.2 a (fun q=>by have:=(s4.above a ao e).2;rw [q,hx] at this;cases this)];exact z
    · subst eo;rw [hs.2 _ (fun q=>by have:=(s4.dict a cl es e).2.1;rw [q,hx] at this;cases this)];exact z
  · obtain ⟨y1,y2⟩:=s4.above a ao e
    exact ⟨y1,by rw [Zag (fun q=>by rw [q,hx] at y2;cases y2)];exact y2⟩
  · obtain ⟨y1,y2,y3⟩:=s4.dict a cl es e
    exact ⟨y1,by rw [Zag (fun q=>by rw [q,hx] at y2;cases y2)];exact y2,y3⟩
theorem St1.setObj (S:St1 c R H h) {x:Addr} {o o':AObj} (hx:H x=some o) (hni':∀ cl es,o'≠.inst cl es) (hs:Heap.SameBut x h h')
    (ho:∀ D,ORep c h' D x o') (hne:o.isX=false:=by rfl):St1 c R (up H x o') h':=by
  obtain ⟨s1,s2,s3,D,s4⟩:=S
  have bx:c.base.get? x=none:=Zm6 ((s4.above x _ hx).1.2 hne)
  refine ⟨fun b o e=>?_,by rw [hs.1];exact s2,fun b rr e=>?_,D,⟨fun a ao e=>?_,fun a ao e=>?_,fun a cl es e=>?_,fun a b cl es cl' es' e e'=>?_⟩⟩
  · rw [hs.2 b (fun q=>by rw [q,bx] at e;cases e)];exact s1 b o e
  · exact ⟨(s3 b rr e).1,(s3 b rr e).2.agree fun ob z=>by rw [hs.2 b (fun q=>by have:=(s4.above x _ hx).2;rw [q,this] at e;cases e)];exact z⟩
  · by_cases q:a=x
    · subst q;rw [Zad] at e;cases e;exact ho D
    · rw [Zab q] at e
      refine (s4.rep a ao e).agree (fun ob z=>by rw [hs.2 a q];exact z) fun cl es eo=>⟨rfl,fun ob z=>?_⟩
      subst eo;rw [hs.2 _ (fun q=>by have:=(s4.dict a cl es e).2.2;rw [q,hx] at this;cases this)];exact z
  · by_cases q:a=x
    · subst q;exact ⟨abv ((s4.above a _ hx).1.2 hne),(s4.above a _ hx).2⟩
    · rw [Zab q] at e;exact s4.above a ao e
  · by_cases q:a=x
    · subst q;rw [Zad] at e;cases e;exact absurd rfl (hni' cl es)
    · rw [Zab q] at e
      obtain ⟨y1,y2,y3⟩:=s4.dict a cl es e
      exact ⟨y1,y2,by rw [Zab (fun q=>by rw [q,hx] at y3;cases y3)];exact y3⟩
  · by_cases q:a=x
    · subst q;rw [Zad] at e;cases e;exact absurd rfl (hni' cl es)
    · by_cases q':b=x
      · subst q';rw [Zad] at e';cases e';exact absurd rfl (hni' cl' es')
      · rw [Zab q] at e;rw [Zab q'] at e';exact s4.inj a b cl es cl' es' e e'
theorem St1.setAttr (S:St1 c R H h) {x:Addr} {cl:String} {es:List (String×AV)} (hx:H x=some (.inst cl es)) :
    ∃ d ents n,h.get? x=some (instObj (c.ca cl) d)∧h.get? d=some (dictOf ents n)∧Zcg es ents∧(es.map (·.1)).Nodup ∧
      ∀ h' ents' n' es',Heap.SameBut d h h'→h'.get? d=some (dictOf ents' n')→Zcg es' ents'→(es'.map (·.1)).Nodup→St1 c R (up H x (.inst cl es')) h':=by
  obtain ⟨s1,s2,s3,D,s4⟩:=S
  obtain ⟨e1,ents,n,e2,e3,e4⟩:=s4.rep x _ hx
  refine ⟨D x,ents,n,e1,e2,e3,e4,fun h' ents' n' es' hs hd ha hnd=>?_⟩
  obtain ⟨d1,d2,d3⟩:=s4.dict x cl es hx
  have bx:c.base.get? (D x)=none:=by
    cases q:c.base.get? (D x) with
    | none=>rfl
    | some o=>have:=lts q;have:=leN d1;lia
  refine ⟨fun b o e=>?_,by rw [hs.1];exact s2,fun b rr e=>?_,D,⟨fun a ao e=>?_,fun a ao e=>?_,fun a cl' es'' e=>?_,fun a b cla esa clb esb e e'=>?_⟩⟩
  · rw [hs.2 b (fun q=>by rw [q,bx] at e;cases e)];exact s1 b o e
  · exact ⟨(s3 b rr e).1,(s3 b rr e).2.agree fun ob z=>by rw [hs.2 b (fun q=>by rw [q,d2] at e;cases e)];exact z⟩
  · by_cases q:a=x
    · subst q;rw [Zad] at e;cases e
      exact ⟨by rw [hs.2 a (fun q=>by rw [← q,hx] at d3;cases d3)];exact e1,ents',n',hd,ha,hnd⟩
    · rw [Zab q] at e
      refine (s4.rep a ao e).agree (fun ob z=>by rw [hs.2 a (fun q=>by rw [q,d3] at e;cases e)];exact z) fun cl' es'' eo=>⟨rfl,fun ob z=>?_⟩
      subst eo;rw [hs.2 _ (fun q'=>q (s4.inj a x _ _ _ _ e hx q'))];exact z
  · by_cases q:a=x
    · subst q;exact ⟨abv ((s4.above a _ hx).1.2 rfl),(s4.above a _ hx).2⟩
    · rw [Zab q] at e;exact s4.above a ao e
  · by_cases q:a=x
    · subst q;exact ⟨d1,d2,by rw [Zab (fun q=>by rw [q,hx] at d3;cases d3)];exact d3⟩
    · rw [Zab q] at e
      obtain ⟨y1,y2,y3⟩:=s4.dict a cl' es'' e
      exact ⟨y1,y2,by rw [Zab (fun q=>by rw [q,hx] at y3;cases y3)];exact y3⟩
  · have t:∀ z cz ez,up H x (.inst cl es') z=some (.inst cz ez)→∃ c0 e0,H z=some (.inst c0 e0):=fun z cz ez ez'=>by
      by_cases q:z=x
      · subst q;exact ⟨_,_,hx⟩
      · rw [Zab q] at ez';exact ⟨_,_,ez'⟩
    obtain ⟨_,_,t1⟩:=t a _ _ e
    obtain ⟨_,_,t2⟩:=t b _ _ e'
    exact s4.inj a b _ _ _ _ t1 t2
theorem St1.newInst (S:St1 c R H h) {cl:String}:H (h.objs.size + 1)=none∧St1 c R (up H (h.objs.size + 1) (.inst cl [])) ((h.push emptyDict).push (instObj (c.ca cl) h.objs.size)):=by
  refine ⟨S.freeH (by lia),?_⟩
  have hfd:=S.freeH (x:=h.objs.size) (by lia)
  have hfi:=S.freeH (x:=h.objs.size + 1) (by lia)
  have hrd:=S.freeR (x:=h.objs.size) (by lia)
  have hri:=S.freeR (x:=h.objs.size + 1) (by lia)
  have k:∀ b o,h.get? b=some o→((h.push emptyDict).push (instObj (c.ca cl) h.objs.size)).get? b=some o:=fun b o e=>Heap.get?_push_of_some _ (Heap.get?_push_of_some _ e)
  obtain ⟨s1,s2,s3,D,s4⟩:=S
  have hDlt:∀ a cl es,H a=some (.inst cl es)→@LT.lt Nat _ (D a) h.objs.size:=fun a cl es e=>by
    obtain ⟨_,_,_,q,_⟩:=s4.rep a _ e;exact lts q
  refine ⟨fun b o e=>k b o (s1 b o e),by rw [Heap.size_push,Heap.size_push];lia,fun b r e=>⟨(s3 b r e).1,(s3 b r e).2.agree fun _=>k _ _⟩,
    fun a=>if a=h.objs.size + 1 then h.objs.size else D a,⟨fun a ao e=>?_,fun a ao e=>?_,fun a cl' es e=>?_,fun a b cla esa clb esb e e' hq=>?_⟩⟩
  · by_cases q:a=h.objs.size + 1
    · subst q;rw [Zad] at e;cases e
      refine ⟨?_,[],0,?_,trivial,by simp⟩
      · simp only [if_true]
        have:=Heap.get?_push_size (h.push emptyDict) (o:=instObj (c.ca cl) h.objs.size) rfl
        rwa [Heap.size_push] at this
      · simp only [if_true]
        exact Heap.get?_push_of_some _ (Heap.get?_push_size h rfl)
    · rw [Zab q] at e
      exact (s4.rep a ao e).agree (fun _=>k _ _) fun cl' es eo=>⟨by simp [q],fun _=>k _ _⟩
  · by_cases q:a=h.objs.size + 1
    · subst q;exact ⟨abv (by lia),hri⟩
    · rw [Zab q] at e;exact s4.above a ao e
  · by_cases q:a=h.objs.size + 1
    · subst q
      simp only [if_true]
      exact ⟨s2,hrd,by rw [Zab (Nat.ne_of_lt (Nat.lt_succ_self _))];exact hfd⟩
    · rw [Zab q] at e
      simp only [if_neg q]
      obtain ⟨y1,y2,y3⟩:=s4.dict a cl' es e
      have:=hDlt a cl' es e
      exact ⟨y1,y2,by rw [Zab (Nat.ne_of_lt (Nat.lt_succ_of_lt this))];exact y3⟩
  · by_cases q:a=h.objs.size + 1
    · by_cases q':b=h.objs.size + 1
      · rw [q,q']
      · rw [Zab q'] at e'
        simp only [q,q',if_true,if_false] at hq
        exact absurd hq (Nat.ne_of_gt (hDlt b _ _ e'))
    · rw [Zab q] at e
      by_cases q':b=h.objs.size + 1
      · simp only [q,q',if_true,if_false] at hq
        exact absurd hq (Nat.ne_of_lt (hDlt a _ _ e))
      · rw [Zab q'] at e'
        simp only [q,q',if_false] at hq
        exact s4.inj a b _ _ _ _ e e' hq
end
theorem Sm.refl (s:Shared):Sm s s:=⟨s.heap,s.toks,rfl⟩
theorem Sm.mk' (s:Shared) (h:Heap) (tk:Nat):Sm s { s with heap:=h,toks:=tk }:=⟨h,tk,rfl⟩
theorem Sm.trans {s s' s'':Shared} (x:Sm s s') (y:Sm s' s''):Sm s s'':=by
  obtain ⟨h,t,rfl⟩:=x
  obtain ⟨h',t',rfl⟩:=y
  exact ⟨h',t',rfl⟩
noncomputable def KB (P:Role→Prop) (o o':Addr→Option Role) (H H':Zaa):Prop:=∀ a r x,P r→o a=some r→H a=some x→x.isB=false→o' a=some r∧H' a=some x
section
variable {P:Role→Prop} {o o':Addr→Option Role} {H H':Zaa} (k:KB P o o' H H') (hd:P .data)
include k hd
theorem pairsAV.congr:∀ {ts:List Addr} {l:List (Str×Int)},pairsAV o H ts l→pairsAV o' H' ts l
  | [],[],_=>trivial
  | t :: _,_ :: _,⟨h1,h2,h3⟩=>⟨(k t _ _ hd h1 h2 rfl).1,(k t _ _ hd h1 h2 rfl).2,h3.congr⟩
  | [],_ :: _,h=>h.elim
  | _ :: _,[],h=>h.elim
theorem PairsAt.congr {p:Addr} {l:List (Str×Int)} (h:PairsAt o H p l):PairsAt o' H' p l:=by
  obtain ⟨h1,ts,h2,h3⟩:=h
  exact ⟨(k p _ _ hd h1 h2 rfl).1,ts,(k p _ _ hd h1 h2 rfl).2,h3.congr k hd⟩
theorem IsPact.congr {i:Nat} (hp:P (.pact i)∧P (.inside i)) {a:Addr} {q:Pc} (h:IsPact o H i a q):IsPact o' H' i a q:=by
  obtain ⟨h1,pa,ga,ne,ins,ep,h2,h3,h4,h5,h6,h7,h8⟩:=h
  exact ⟨(k a _ _ hp.1 h1 h2 rfl).1,pa,ga,ne,ins,ep,(k a _ _ hp.1 h1 h2 rfl).2,h3.congr k hd,h4.congr k hd,(k ne _ _ hd h5 h6 rfl).1,(k ne _ _ hd h5 h6 rfl).2,(k ins _ _ hp.2 h7 h8 rfl).1,(k ins _ _ hp.2 h7 h8 rfl).2⟩
theorem pactsAt.congr:∀ {i:Nat} {as:List Addr} {qs:List Pc},(∀ j,i≤j→P (.pact j)∧P (.inside j))→pactsAt o H i as qs→pactsAt o' H' i as qs
  | _,[],[],_,_=>trivial
  | i,_ :: _,_ :: _,hp,⟨h1,h2⟩=>⟨h1.congr k hd (hp i (Nat.le_refl _)),h2.congr fun j hj=>hp j (Nat.le_of_succ_le hj)⟩
  | _,[],_ :: _,_,h=>h.elim
  | _,_ :: _,[],_,h=>h.elim
end
theorem IsBook.congr {o o':Addr→Option Role} {H H':Zaa} (k:KB (fun _=>True) o o' H H') {b f s p:Addr} {as:List Addr} {B:Bk} (h:IsBook o H b f s p as B):IsBook o' H' b f s p as B:=by
  obtain ⟨h1,h2,h3,h4,h5,⟨e1,h6⟩,⟨e2,h7⟩,⟨e3,h8⟩,h9⟩:=h
  exact ⟨(k b _ _ trivial h1 h5 rfl).1,(k f _ _ trivial h2 h6 rfl).1,(k s _ _ trivial h3 h7 rfl).1,(k p _ _ trivial h4 h8 rfl).1,(k b _ _ trivial h1 h5 rfl).2,⟨e1,(k f _ _ trivial h2 h6 rfl).2⟩,⟨e2,(k s _ _ trivial h3 h7 rfl).2⟩,⟨e3,(k p _ _ trivial h4 h8 rfl).2⟩,h9.congr k trivial fun _ _=>⟨trivial,trivial⟩⟩
set_option tactic.hygienic true in
theorem ownB_some {o:Addr→Option (Addr×Role)} {b a:Addr} {r:Role}:ownB o b a=some r ↔ o a=some (b,r):=by
  unfold ownB
  split
  · rename_i c r' e
    rw [e]
    by_cases q:c=b <;> simp [q]
  · rename_i e;rw [e];simp
section
variable {H H₁:Zaa}
theorem Real.get (r:Real H H₁) {a:Addr} {x:AObj} (e:H a=some x) (hb:x.isB=false):H₁ a=some x:=by
  obtain ⟨_,o,h⟩:=r
  rcases h a x e with ⟨_,h,_⟩ | ⟨B,_,_,_,_,rfl,_⟩
  · exact h
  · cases hb
theorem Real.none (r:Real H H₁) {a:Addr} (e:H₁ a=Option.none):H a=Option.none:=by
  obtain ⟨_,o,h⟩:=r
  cases q:H a with
  | none=>rfl
  | some x =>
    rcases h a x q with ⟨_,h,_⟩ | ⟨B,f,s,p,as,rfl,h⟩
    · rw [e] at h;cases h
    · have:=h.hb;rw [e] at this;cases this
theorem Real.put (r:Real H H₁) {x:Addr} {y:AObj} (hy:y.isB=false) (hx:H₁ x=Option.none∨∃ z,H x=some z∧z.isB=false):Real (up H x y) (up H₁ x y):=by
  obtain ⟨hr,o,h⟩:=r
  have hox:(∃ z,H x=some z∧z.isB=false)→o x=Option.none:=by
    rintro ⟨z,e,hz⟩
    rcases h x z e with ⟨_,_,q⟩ | ⟨B,_,_,_,_,rfl,_⟩
    · exact q
    · cases hz
  refine ⟨fun a z e=>?_,fun a=>if a=x then Option.none else o a,fun a z e=>?_⟩
  · by_cases q:a=x
    · subst q;rw [Zad] at e;cases e;exact hy
    · rw [Zab q] at e;exact hr a z e
  by_cases q:a=x
  · subst q;rw [Zad] at e;cases e
    exact .inl ⟨hy,Zad,if_pos rfl⟩
  · rw [Zab q] at e
    rcases h a z e with ⟨h1,h2,h3⟩ | ⟨B,f,s,p,as,rfl,h1⟩
    · exact .inl ⟨h1,by rw [Zab q];exact h2,(if_neg q).trans h3⟩
    · refine .inr ⟨B,f,s,p,as,rfl,h1.congr fun c r' z _ hr hc _=>?_⟩
      have hr:=ownB_some.mp hr
      have hcx:c≠x:=by
        rintro rfl
        rcases hx with hx | hx
        · rw [hx] at hc;cases hc
        · rw [hox hx] at hr;cases hr
      exact ⟨ownB_some.mpr ((if_neg hcx).trans hr),by rw [Zab hcx];exact hc⟩
theorem Real.less {H':Zaa} (r:Real H H₁) (k:∀ a x,H' a=some x→H a=some x):Real H' H₁:=by
  obtain ⟨hr,o,h⟩:=r
  exact ⟨hr,o,fun a x e=>h a x (k a x e)⟩
theorem Real.raw (hr:∀ a x,H a=some x→x.isB=false):Real H H:=⟨hr,fun _=>Option.none,fun a x e=>.inl ⟨hr a x e,e,rfl⟩⟩
theorem Real.unpack (r:Real H H₁) {b:Addr} {B:Bk} (hb:H b=some (.book B)):∃ H₂ o f s p as,Real H₂ H₁∧IsBook o H₂ b f s p as B∧∀ a x,H a=some x→a≠b→H₂ a=some x∧o a=Option.none:=by
  obtain ⟨hr,o,h⟩:=r
  rcases h b _ hb with ⟨h1,_⟩ | ⟨B',f,s,p,as,e,h1⟩
  · cases h1
  cases e
  have key:∀ a x,H a=some x→a≠b→ownB o b a=Option.none:=fun a x e q=>by
    cases z:ownB o b a with
    | none=>rfl
    | some r =>
      have z:=ownB_some.mp z
      rcases h a x e with ⟨_,_,k⟩ | ⟨B',f',s',p',as',rfl,k⟩
      · rw [k] at z;cases z
      · have:=ownB_some.mp k.ob;rw [this] at z;cases z;exact absurd rfl q
  have hbs:=h1.ob
  refine ⟨fun a=>match ownB o b a with | some _=>H₁ a | Option.none=>H a,ownB o b,f,s,p,as,⟨hr,fun a=>match ownB o b a with | some _=>Option.none | Option.none=>o a,fun a x e=>?_⟩,h1.congr fun a r x _ hr hx _=>⟨hr,by simp only [hr];exact hx⟩,fun a x e q=>?_⟩
  · cases z:ownB o b a with
    | some r=>simp only [z] at e;exact .inl ⟨hr a x e,e,by simp only [z]⟩
    | none =>
      simp only [z] at e
      rcases h a x e with ⟨k1,k2,k3⟩ | ⟨B',f',s',p',as',rfl,k⟩
      · exact .inl ⟨k1,k2,by simp only [z];exact k3⟩
      · refine .inr ⟨B',f',s',p',as',rfl,k.congr fun c r x _ hc hx _=>⟨?_,hx⟩⟩
        have hc:=ownB_some.mp hc
        have hab:a≠b:=by rintro rfl;rw [hbs] at z;cases z
        have hn:ownB o b c=Option.none:=by
          cases w:ownB o b c with
          | none=>rfl
          | some r'=>have w:=ownB_some.mp w;rw [hc] at w;cases w;exact absurd rfl hab
        exact ownB_some.mpr (by simp only [hn];exact hc)
  · have:=key a x e q
    exact ⟨by simp only [this];exact e,this⟩
theorem Real.pack {H₂:Zaa} {o:Addr→Option Role} {b f s p:Addr} {as:List Addr} {B:Bk} (r:Real H₂ H₁) (hb:IsBook o H₂ b f s p as B)
    (k:∀ a x,H a=some x→(a=b∧x = .book B)∨(a≠b∧o a=Option.none∧H₂ a=some x)):Real H H₁:=by
  obtain ⟨hr,oA,h⟩:=r
  refine ⟨hr,fun a=>match oA a with | some z=>some z | Option.none=>(o a).map fun r=>(b,r),fun a x e=>?_⟩
  rcases k a x e with ⟨rfl,rfl⟩ | ⟨h1,h2,h3⟩
  · refine .inr ⟨B,f,s,p,as,rfl,hb.congr fun c r x _ hc hx hn=>?_⟩
    rcases h c x hx with ⟨_,k1,k2⟩ | ⟨B',_,_,_,_,rfl,_⟩
    · exact ⟨ownB_some.mpr (by simp only [k2,hc];rfl),k1⟩
    · cases hn
  · rcases h a x h3 with ⟨k1,k2,k3⟩ | ⟨B',f',s',p',as',rfl,k1⟩
    · exact .inl ⟨k1,k2,by simp only [k3,h2];rfl⟩
    · refine .inr ⟨B',f',s',p',as',rfl,k1.congr fun c r x _ hc hx _=>⟨?_,hx⟩⟩
      have hc:=ownB_some.mp hc
      exact ownB_some.mpr (by simp only [hc])
end
section
variable {c:Cx} {R R':RR} {H:Zaa} {h h':Heap}
theorem St.stays (S:St c R H h):c.base.StaysIn h:=let ⟨_,s,_⟩:=S;s.stays
theorem St.size (S:St c R H h):c.base.objs.size≤h.objs.size:=let ⟨_,s,_⟩:=S;s.size
theorem St.res (S:St c R H h):∀ b r,R b=some r→c.base.objs.size≤b∧ResAt h b r:=let ⟨_,s,_⟩:=S;s.res
theorem St.orep (S:St c R H h) {a:Addr} {x:AObj} (e:H a=some x) (hb:x.isB=false:=by rfl):(∃ D,ORep c h D a x)∧Abv c a x∧R a=none:=by
  obtain ⟨H₁,s,r⟩:=S
  obtain ⟨D,k⟩:=s.rep
  exact ⟨⟨D,k.rep a x (r.get e hb)⟩,k.above a x (r.get e hb)⟩
theorem St.there (S:St c R H h) {a:Addr} {x:AObj} (e:H a=some x):∃ ob,h.get? a=some ob:=by
  obtain ⟨H₁,s,r⟩:=S
  obtain ⟨D,k⟩:=s.rep
  cases q:H₁ a with
  | none=>rw [r.none q] at e;cases e
  | some y=>exact (k.rep a y q).there
theorem St.weaken (S:St c R' H h) (k:∀ b r,R b=some r→R' b=some r):St c R H h:=let ⟨H₁,s,r⟩:=S;⟨H₁,s.weaken k,r⟩
theorem St.keeps (S:St c R H h) (k:∀ b o,h.get? b=some o→h'.get? b=some o) (hs:h.objs.size≤h'.objs.size):St c R H h':=let ⟨H₁,s,r⟩:=S;⟨H₁,s.keeps k hs,r⟩
theorem St.push (S:St c R H h) (o:Obj):St c R H (h.push o):=let ⟨H₁,s,r⟩:=S;⟨H₁,s.push o,r⟩
theorem St.freeR (S:St c R H h) {x:Addr} (hx:h.objs.size≤x):R x=none:=let ⟨_,s,_⟩:=S;s.freeR hx
theorem St.newObj (S:St c R H h) {x:Addr} {o:AObj} (hx:h.objs.size≤x) (k:∀ b ob,h.get? b=some ob→h'.get? b=some ob) (hs:h.objs.size≤h'.objs.size)
    (hni:∀ cl es,o≠.inst cl es) (ho:∀ D,ORep c h' D x o) (hb:o.isB=false:=by rfl):H x=none∧St c R (up H x o) h':=by
  obtain ⟨H₁,s,r⟩:=S
  obtain ⟨e,s'⟩:=s.newObj hx k hs hni ho
  exact ⟨r.none e,_,s',r.put hb (.inl e)⟩
theorem St.newRes (S:St c R H h) {x:Addr} {r:Res} (hx:h.objs.size≤x) (k:∀ b ob,h.get? b=some ob→h'.get? b=some ob) (hs:h.objs.size≤h'.objs.size)
    (hr:ResAt h' x r):R x=none∧H x=none∧St c (rup R x r) H h':=by
  obtain ⟨H₁,s,rl⟩:=S
  obtain ⟨e,e',s'⟩:=s.newRes hx k hs hr
  exact ⟨e,rl.none e',_,s',rl⟩
theorem St.setRes (S:St c R H h) {x:Addr} {r r':Res} (hx:R x=some r) (hs:Heap.SameBut x h h') (hr:ResAt h' x r'):St c (rup R x r') H h':=let ⟨H₁,s,rl⟩:=S;⟨H₁,s.setRes hx hs hr,rl⟩
theorem St.setObj (S:St c R H h) {x:Addr} {o o':AObj} (hx:H x=some o) (hni':∀ cl es,o'≠.inst cl es) (hs:Heap.SameBut x h h')
    (ho:∀ D,ORep c h' D x o') (hne:o.isX=false:=by rfl) (hb:o.isB=false:=by rfl) (hb':o'.isB=false:=by rfl):St c R (up H x o') h':=by
  obtain ⟨H₁,s,r⟩:=S
  exact ⟨_,s.setObj (r.get hx hb) hni' hs ho hne,r.put hb' (.inr ⟨o,hx,hb⟩)⟩
theorem St.setAttr (S:St c R H h) {x:Addr} {cl:String} {es:List (String×AV)} (hx:H x=some (.inst cl es)) :
    ∃ d ents n,h.get? x=some (instObj (c.ca cl) d)∧h.get? d=some (dictOf ents n)∧Zcg es ents∧(es.map (·.1)).Nodup ∧
      ∀ h' ents' n' es',Heap.SameBut d h h'→h'.get? d=some (dictOf ents' n')→Zcg es' ents'→(es'.map (·.1)).Nodup→St c R (up H x (.inst cl es')) h':=by
  obtain ⟨H₁,s,r⟩:=S
  obtain ⟨d,ents,n,a1,a2,a3,a4,a5⟩:=s.setAttr (r.get hx rfl)
  exact ⟨d,ents,n,a1,a2,a3,a4,fun h' e' n' es' q1 q2 q3 q4=>⟨_,a5 h' e' n' es' q1 q2 q3 q4,r.put rfl (.inr ⟨_,hx,rfl⟩)⟩⟩
theorem St.newInst (S:St c R H h) {cl:String}:H (h.objs.size + 1)=none∧St c R (up H (h.objs.size + 1) (.inst cl [])) ((h.push emptyDict).push (instObj (c.ca cl) h.objs.size)):=by
  obtain ⟨H₁,s,r⟩:=S
  obtain ⟨e,s'⟩:=s.newInst (cl:=cl)
  exact ⟨r.none e,_,s',r.put rfl (.inl e)⟩
theorem St.bookAttr (S:St c R H h) {x:Addr} {B:Bk} (hx:H x=some (.book B)):∃ f s p,∃ d ents n,h.get? x=some (instObj (c.ca "Book") d)∧h.get? d=some (dictOf ents n)∧Zcg [("day",.int B.day),("free",.ref f),("aside",.ref s),("pacts",.ref p)] ents:=by
  obtain ⟨H₁,s,r⟩:=S
  obtain ⟨_,o,k⟩:=r
  rcases k x _ hx with ⟨k,_⟩ | ⟨B',f,s',p,as,e,k⟩
  · cases k
  cases e
  obtain ⟨d,ents,n,a1,a2,a3,_⟩:=s.setAttr k.hb
  exact ⟨f,s',p,d,ents,n,a1,a2,a3⟩
end
end Mine
end
section
open PySem PySem.W PyProof.Rows PySem.Spec PySem.SeqAt PySem.Calls
namespace Mine
structure Cx.Ok (c:Cx) (mg mb:Str→Option Value):Prop where
  kin:c.K.In c.base
  g:c.base.Ns mainGlobals mg
  b:c.base.Ns builtinsNs mb
  nolimit:c.base.NoLimit
  builtins:∀ x:Str,x≠"__name__"→mb x=bootBuiltins x
  seer:c.base.NoSeer
  tree:c.prog.given.tree=none
  top:∃ p loose,TopRead p loose mg mb c.base
structure Ev (g:Gx) (A:Around) (R:RR) (e:Env) (l:List Env):Prop where
  aok:AOk 4 g.n g.md A (e :: l)
  stk:Stk R (e :: l)
inductive TQi (c:Cx) (R:RR) (s0:Shared) (Q:AV→Zaa→Prop) (v:Value) (s':Shared):Prop
  | mk (av:AV) (H':Zaa) (hv:VR av v) (S:St c R H' s'.heap) (m:Sm s0 s') (q:Q av H'):TQi c R s0 Q v s'
noncomputable def TQ (g:Gx) (R:RR) (s0:Shared) (Q:AV→Zaa→Prop) (v:Value) (s':Shared):Prop:=TQi g.c R s0 Q v s'
inductive TBi (c:Cx) (R:RR) (s0:Shared) (Q:Bool→Zaa→Prop) (b:Bool) (s':Shared):Prop
  | mk (H':Zaa) (S:St c R H' s'.heap) (m:Sm s0 s') (q:Q b H'):TBi c R s0 Q b s'
noncomputable def TB (g:Gx) (R:RR) (s0:Shared) (Q:Bool→Zaa→Prop) (b:Bool) (s':Shared):Prop:=TBi g.c R s0 Q b s'
inductive TEi (c:Cx) (R:RR) (s0:Shared) (E:String→Zaa→Prop) (e:Value) (s':Shared):Prop
  | mk (a:Addr) (cl:String) (H':Zaa) (h:e = .ref a) (X:ExcSt c R H' a cl .none s'.heap) (m:Sm s0 s') (q:E cl H'):TEi c R s0 E e s'
noncomputable def TE (g:Gx) (R:RR) (s0:Shared) (E:String→Zaa→Prop) (e:Value) (s':Shared):Prop:=TEi g.c R s0 E e s'
theorem Sm.step {s0 s:Shared} (x:Sm s0 s) (h:Heap) (tk:Nat):Sm s0 { s with heap:=h,toks:=tk }:=x.trans ⟨h,tk,rfl⟩
theorem Sm.toks {s0 s:Shared} (x:Sm s0 s) (tk:Nat):Sm s0 { s with toks:=tk }:=x.trans ⟨s.heap,tk,rfl⟩
theorem Sm.heap {s0 s:Shared} (x:Sm s0 s) (h:Heap):Sm s0 { s with heap:=h }:=x.trans ⟨h,s.toks,rfl⟩
section
variable {g:Gx} {A:Around} {R:RR} {s0 s:Shared} {H:Zaa} {E:Value→Shared→Prop} {Q:AV→Zaa→Prop}
theorem TQ.pure {a:AV} {v:Value} (hv:VR a v) (S:St g.c R H s.heap) (m:Sm s0 s) (q:Q a H):TQ g R s0 Q v s:=⟨a,H,hv,S,m,q⟩
theorem TQ.toks {a:AV} {v:Value} {tk:Nat} (hv:VR a v) (S:St g.c R H s.heap) (m:Sm s0 s) (q:Q a H):TQ g R s0 Q v { s with toks:=tk }:=⟨a,H,hv,S,m.toks tk,q⟩
theorem Za9 {a:Addr} {xs:List AV} (S:St g.c R H s.heap) (e:H a=some (.list xs)):∃ vs n,s.heap.get? a=some (listOf (vs:List Value).toArray n)∧VRs xs vs∧s.heap.IsList a vs.toArray:=by
  obtain ⟨⟨D,vs,n,h1,h2⟩,_⟩:=S.orep e
  exact ⟨vs,n,h1,h2,_,h1,rfl,n,rfl⟩
theorem Zcy {a:Addr} {xs:List AV} (S:St g.c R H s.heap) (e:H a=some (.tuple xs)):∃ vs n,s.heap.get? a=some { cls:=.type "tuple",data:=.seq (vs:List Value).toArray n }∧VRs xs vs∧IsTup s.heap a vs.toArray:=by
  obtain ⟨⟨D,vs,n,h1,h2⟩,_⟩:=S.orep e
  exact ⟨vs,n,h1,h2,_,h1,rfl,n,rfl⟩
theorem Zcp {a:Addr} {ep:Nat} {es:List (Str×AV)} (S:St g.c R H s.heap) (e:H a=some (.dict ep es)):∃ kvs,s.heap.DictAt (strKind g.c.prog g.c.w) a kvs ep∧DRs es kvs:=by
  obtain ⟨⟨D,r⟩,_⟩:=S.orep e
  exact r
theorem Zt9 {a:Addr} {o:AObj} (S:St g.c R H s.heap) (e:H a=some o) (hne:o.isX=false:=by rfl) (hb:o.isB=false:=by rfl):g.c.base.objs.size≤a:=(S.orep e hb).2.1.2 hne
theorem DRs.length {es kvs} (h:DRs es kvs):kvs.length=es.length:=by
  induction h with
  | nil=>rfl
  | cons _ _ _ ih=>simp [ih]
set_option tactic.hygienic true in
theorem DRs.look {es kvs} (h:DRs es kvs) (k:Str):OVR (Zbx es k) (valueAt kvs k):=by
  induction h with
  | nil=>exact .none
  | cons hk hv _ ih =>
    rename_i k' a v as vs _
    dsimp only [Zbx,valueAt,List.find?_cons] at ih ⊢
    by_cases q:k'=k
    · simp [q];exact .some hv
    · simp [q];exact ih
theorem DRs.vals {es kvs} (h:DRs es kvs):VRs (es.map (·.2)) (kvs.map (·.2)):=by
  induction h with
  | nil=>exact .nil
  | cons _ hv _ ih=>exact .cons hv ih
theorem OVR.isSome {a v} (h:OVR a v):v.isSome=a.isSome:=by cases h <;> rfl
theorem Zfi {xs:List AV} {vs:List Value} {n:Nat} {h':Heap} {x:Addr} {tk:Nat} (S:St g.c R H s.heap) (m:Sm s0 s) (hv:VRs xs vs) (hx:s.heap.objs.size≤x)
    (k:∀ b ob,s.heap.get? b=some ob→h'.get? b=some ob) (hs:s.heap.objs.size≤h'.objs.size) (ho:h'.get? x=some (listOf vs.toArray n))
    (q:∀ z,H z=none→Q (.ref z) (up H z (.list xs))):TQ g R s0 Q (.ref x) { s with heap:=h',toks:=tk }:=by
  obtain ⟨e,S'⟩:=S.newObj (o:=.list xs) hx k hs (by intro _ _ z;cases z) (fun D=>⟨vs,n,ho,hv⟩)
  exact ⟨.ref x,_,.ref x,S',m.step _ _,q x e⟩
theorem Zjd {v:Value} {a:AV} {Qb:Bool→Zaa→Prop} (hv:VR a v) (S:St g.c R H s.heap) (m:Sm s0 s) (q:Zbp a H (fun b=>Qb b H)) :
    wpAny (model g.c.prog g.c.w) A (truthy v) (TB g R s0 Qb) E s:=by
  cases hv with
  | none=>exact truthy_none ⟨H,S,m,q⟩
  | bool b=>exact wpAny_truthy_bool ⟨H,S,m,q⟩
  | int i t=>exact truthy_int ⟨H,S,m,q⟩
  | str x t hx =>
    refine P.truthy_str (by have:=q.1;omega) ⟨H,S,m.toks _,?_⟩
    have:((x.length:Int) != 0)=(x.length != 0):=by
      cases x.length with
      | zero=>rfl
      | succ n=>simp;omega
    rw [this];exact q.2
  | ref p =>
    obtain ⟨o,e⟩:∃ o,H p=o:=⟨_,rfl⟩
    rw [Zxo,e] at q
    cases o with
    | none=>exact q.elim
    | some o =>
    cases o with
    | list xs =>
      obtain ⟨vs,n,h1,h2,h3⟩:=Za9 S e
      have hl:=h2.length
      refine wpAny_truthy_list h3 (by simp only [List.size_toArray];have:=q.1;omega) ⟨H,S,m.toks _,?_⟩
      have:(vs.toArray.isEmpty)=xs.isEmpty:=by cases h2 <;> rfl
      rw [this];exact q.2
    | tuple xs =>
      obtain ⟨vs,n,h1,h2,h3⟩:=Zcy S e
      have hl:=h2.length
      refine truthy_tuple h3 (by simp only [List.size_toArray];have:=q.1;omega) ⟨H,S,m.toks _,?_⟩
      have:(vs.toArray.isEmpty)=xs.isEmpty:=by cases h2 <;> rfl
      rw [this];exact q.2
    | _=>exact q.elim
theorem Zjy {x y:Str} (hx:PyData.strOk x=true) (hy:PyData.strOk y=true):PyData.strOk (x ++ y)=true:=by
  show (x.cps ++ y.cps).all _=true
  rw [Array.all_append]
  exact Bool.and_eq_true_iff.mpr ⟨hx,hy⟩
theorem Zhd {x:Str} (hx:PyData.strOk x=true) {ch:Nat} (hc:ch∈x.cps):ch < 0x110000:=by
  have:=(Array.all_eq_true_iff_forall_mem.mp hx) ch hc
  simpa using this
theorem Zi8 {l:List Nat} (h:∀ ch∈l,ch < 0x110000):PyData.strOk ⟨l.toArray⟩ = true:=by
  show l.toArray.all _=true
  rw [Array.all_eq_true_iff_forall_mem]
  intro ch hc
  simpa using h ch (by simpa using hc)
theorem Zdq {as:List AV} {vs:List Value} {k:AV→Prop} {m:List Value→Prop} (hv:VRs as vs) (q:onV1 as k) (f:∀ a v,VR a v→k a→m [v]):m vs:=by
  cases hv with
  | nil=>exact q.elim
  | cons h1 hr=>cases hr with
    | nil=>exact f _ _ h1 q
    | cons=>exact q.elim
theorem Zl9 {o:AV} {u:Value} {k:Addr→List AV→Prop} {m:Value→Prop} (ho:VR o u) (q:atL o H k) (f:∀ p xs,H p=some (.list xs)→k p xs→m (.ref p)):m u:=by
  cases ho with
  | ref p =>
    obtain ⟨o,e⟩:∃ o,H p=o:=⟨_,rfl⟩
    dsimp only [atL] at q
    rw [e] at q
    cases o with
    | none=>exact q.elim
    | some o=>cases o with
      | list xs=>exact f p xs e q
      | _=>exact q.elim
  | _=>exact q.elim
theorem Zrr {o:AV} {u:Value} {k:Addr→List (Str×AV)→Prop} {m:Value→Prop} (ho:VR o u) (q:atD o H k) (f:∀ p ep es,H p=some (.dict ep es)→k p es→m (.ref p)):m u:=by
  cases ho with
  | ref p =>
    obtain ⟨o,e⟩:∃ o,H p=o:=⟨_,rfl⟩
    dsimp only [atD] at q
    rw [e] at q
    cases o with
    | none=>exact q.elim
    | some o=>cases o with
      | dict ep es=>exact f p ep es e q
      | _=>exact q.elim
  | _=>exact q.elim
theorem Zdd {a b:AV} {u v:Value} {P:Int→Int→Prop} {m:Value→Value→Prop} (hu:VR a u) (hv:VR b v) (q:wii a b P) (f:∀ x y t t',P x y→m (.int x t) (.int y t')):m u v:=by
  cases hu with
  | int x t=>cases hv with
    | int y t'=>exact f x y t t' q
    | _=>exact q.elim
  | _=>exact q.elim
set_option tactic.hygienic true in
theorem Zx4 {x y:Str} {t u:Tok} (hx:PyData.strOk x=true) (hy:PyData.strOk y=true) (S:St g.c R H s.heap) (m:Sm s0 s) (q1:x.length + y.length≤sizeLine) (q2:Q (.str (x ++ y)) H) :
    wpAny (model g.c.prog g.c.w) A (binaryOp .Add (.str x t) (.str y u)) (TQ g R s0 Q) E s:=by
  refine P.add_str ?_
  have e1:∀ z:Str,z.length=0→z=Str.empty:=fun z hz=>by
    obtain ⟨⟨l⟩⟩:=z
    cases l with
    | nil=>rfl
    | cons=>cases hz
  split
  · rename_i hz
    have hz':=e1 _ (by simpa using hz)
    rw [hz'] at q2
    refine TQ.pure (.str _ u hy) S m ?_
    have e2:∀ y:Str,Str.empty ++ y=y:=fun y=>by show Str.append _ _=_;simp [Str.append,Str.empty]
    rw [e2] at q2;exact q2
  · split
    · rename_i _ hz
      have hz':=e1 _ (by simpa using hz)
      rw [hz'] at q2
      refine TQ.pure (.str _ t hx) S m ?_
      have e2:∀ x:Str,x ++ Str.empty=x:=fun x=>by show Str.append _ _=_;simp [Str.append,Str.empty]
      rw [e2] at q2;exact q2
    · refine ⟨?_,TQ.toks (.str _ _ (Zjy hx hy)) S m q2⟩
      rw [Str.length_append];exact q1
theorem Zx5 {x y:Addr} (S:St g.c R H s.heap) (m:Sm s0 s) (q:wbin .Add (.ref x) (.ref y) Q H) :
    wpAny (model g.c.prog g.c.w) A (binaryOp .Add (.ref x) (.ref y)) (TQ g R s0 Q) E s:=by
  obtain ⟨o,e1⟩:∃ o,H x=o:=⟨_,rfl⟩
  obtain ⟨o',e2⟩:∃ o,H y=o:=⟨_,rfl⟩
  replace q:(match H x,H y with
      | some (.list xs),some (.list ys)=>xs.length + ys.length≤sizeLine∧∀ z,H z=none→Q (.ref z) (up H z (.list (xs ++ ys)))
      | _,_=>False):=q
  rw [e1,e2] at q
  cases o with
  | none=>exact q.elim
  | some o =>
  cases o with
  | list xs=>cases o' with
    | none=>exact q.elim
    | some o'=>cases o' with
      | list ys =>
        obtain ⟨vs,n,h1,h2,h3⟩:=Za9 S e1
        obtain ⟨ws,n',k1,k2,k3⟩:=Za9 S e2
        refine P.add_list (n:=n) (n2:=n') h1 k1 ?_ (by have:=h2.length;have:=k2.length;have:=q.1;simp only [List.size_toArray];lia)
        have hvw:=h2.append k2
        refine Zfi (n:=0) (vs:=vs ++ ws) S m hvw (Nat.le_refl _) (fun _ _ e=>Heap.get?_push_of_some _ e) (by rw [Heap.size_push];exact Nat.le_succ _) ?_ q.2
        rw [Heap.get?_push_size _ rfl];simp
      | _=>exact q.elim
  | _=>exact q.elim
theorem Z0n {op:Operator} {a b:AV} {u v:Value} {e₀:Env} {l₀:List Env} {mg mb:Str→Option Value} (C:g.c.Ok mg mb) (V:Ev g A R e₀ l₀) (hu:VR a u) (hv:VR b v) (S:St g.c R H s.heap) (m:Sm s0 s) (q:wbin op a b Q H) :
    wpAny (model g.c.prog g.c.w) A (binaryOp op u v) (TQ g R s0 Q) E s:=by
  cases op with
  | Add=>cases hu with
    | int x t=>cases hv with
      | int y t'=>exact add_int (TQ.toks (.int _ _) S m q)
      | _=>exact q.elim
    | str x t hx=>cases hv with
      | str y t' hy=>exact Zx4 hx hy S m q.1 q.2
      | _=>exact q.elim
    | ref p=>cases hv with
      | ref p'=>exact Zx5 S m q
      | _=>exact q.elim
    | _=>exact q.elim
  | Sub=>exact Zdd (m:=fun u v=>wpAny _ A (binaryOp .Sub u v) (TQ g R s0 Q) E s) hu hv q fun _ _ _ _ q=>sub_int (TQ.toks (.int _ _) S m q)
  | Mult=>exact Zdd (m:=fun u v=>wpAny _ A (binaryOp .Mult u v) (TQ g R s0 Q) E s) hu hv q fun _ _ _ _ q=>mul_int (TQ.toks (.int _ _) S m q.2) q.1
  | FloorDiv =>
    refine Zdd (m:=fun u v=>wpAny _ A (binaryOp .FloorDiv u v) (TQ g R s0 Q) E s) hu hv q fun _ _ _ _ q=>?_
    have F0:=V.stk e₀ (List.mem_cons_self ..)
    refine floordiv_int q.1 (TQ.toks (.int _ _) S m q.2) (.inr (PySem.PylongRoom.of (C.nolimit.keeps S.stays) ?_ (PySem.SeerAt.of (env:=e₀) (l:=l₀) (C.seer.keeps S.stays) C.tree V.aok.frames F0.gen F0.co F0.blt F0.glob)))
    have:=V.aok.depth
    have e:Builtin.pylongFrames≤100:=by decide
    lia
  | Mod=>exact Zdd (m:=fun u v=>wpAny _ A (binaryOp .Mod u v) (TQ g R s0 Q) E s) hu hv q fun _ _ _ _ q=>mod_int' q.1 (TQ.toks (.int _ _) S m q.2)
  | Pow =>
    refine Zdd (m:=fun u v=>wpAny _ A (binaryOp .Pow u v) (TQ g R s0 Q) E s) hu hv q fun x y _ _ q=>?_
    obtain ⟨⟨q1,q2,q3⟩,q4⟩:=q
    refine AutoIntOps.pow_4 (by lia) (by simp;lia) (by simp;lia) (by simp;lia) (by rw [q3];simp) (show (Made.int (x ^ y.toNat)).post _ s from TQ.toks (.int _ _) S m q4)
  | _=>exact q.elim
theorem RDs.len {H:Zaa} {as:List AV}:∀ {ds:List PyData},RDs H as ds→as.length=ds.length:=by
  induction as with
  | nil=>intro ds r;cases r;rfl
  | cons a as ih=>intro ds r;cases r with | cons _ r=>exact congrArg Nat.succ (ih r)
abbrev Rds (s:Shared) (v:Value) (d:PyData):Prop:=(∃ as,Reads s.heap v d as)∧(Zkr d=true→PyData.canLay0 d=true)
abbrev RdsA (s:Shared) (vs:List Value) (ds:List PyData):Prop:=(∃ bs,ReadsAll s.heap vs ds bs)∧(Zd8 ds=true→PyData.canLayAll0 ds=true)
theorem Zv2 (S:St g.c R H s.heap) {a:Addr} {xs:List AV} {ds:List PyData} (e:H a=some (.list xs)) (ih:∀ {vs},VRs xs vs→RdsA s vs ds):Rds s (.ref a) (.list ds):=by
  obtain ⟨vs,n,h1,h2,h3⟩:=Za9 S e
  obtain ⟨⟨as,ih⟩,cl⟩:=ih h2
  exact ⟨⟨_,.list h1 rfl rfl ih⟩,cl⟩
theorem Zsn (S:St g.c R H s.heap) {a:Addr} {xs:List AV} {ds:List PyData} (e:H a=some (.tuple xs)) (ih:∀ {vs},VRs xs vs→RdsA s vs ds):Rds s (.ref a) (.tuple ds):=by
  obtain ⟨vs,n,h1,h2,h3⟩:=Zcy S e
  obtain ⟨⟨as,ih⟩,cl⟩:=ih h2
  exact ⟨⟨_,.tuple h1 rfl rfl ih⟩,cl⟩
theorem Zpg {a:AV} {d:PyData} {as:List AV} {ds:List PyData} (h:∀ {v},VR a v→Rds s v d) (ih:∀ {vs},VRs as vs→RdsA s vs ds) {vs:List Value} (hv:VRs (a :: as) vs):RdsA s vs (d :: ds):=by
  cases hv with
  | cons v vs =>
    obtain ⟨⟨a1,h1⟩,c1⟩:=h v
    obtain ⟨⟨a2,h2⟩,c2⟩:=ih vs
    refine ⟨⟨_,.cons h1 h2⟩,fun f=>?_⟩
    have f:=Bool.and_eq_true_iff.mp f
    exact Bool.and_eq_true_iff.mpr ⟨c1 f.1,c2 f.2⟩
theorem Zen (S:St g.c R H s.heap) {a:AV} {d:PyData} {v:Value} (r:RD H a d):VR a v→Rds s v d :=
  @RD.rec H (fun a d _=>∀ {v},VR a v→Rds s v d) (fun as ds _=>∀ {vs},VRs as vs→RdsA s vs ds)
    (fun hv=>by cases hv;exact ⟨⟨[],.none⟩,fun _=>rfl⟩)
    (fun b _ hv=>by cases hv;exact ⟨⟨[],.bool b⟩,fun _=>rfl⟩)
    (fun i _ hv=>by cases hv with | int _ t=>exact ⟨⟨[],.int i t⟩,fun _=>rfl⟩)
    (fun x _ hv=>by cases hv with | str _ t h=>exact ⟨⟨[],.str x t⟩,fun _=>h⟩)
    (fun e _ ih _ hv=>by cases hv;exact Zv2 S e ih)
    (fun e _ ih _ hv=>by cases hv;exact Zsn S e ih)
    (fun hv=>by cases hv;exact ⟨⟨[],.nil⟩,fun _=>rfl⟩)
    (fun _ _ h ih _ hv=>Zpg h ih hv) a d r v
theorem Zlg (S:St g.c R H s.heap) {as:List AV}:∀ {ds:List PyData} {vs:List Value},RDs H as ds→VRs as vs→RdsA s vs ds:=by
  induction as with
  | nil=>intro ds vs r hv;cases r;cases hv;exact ⟨⟨[],.nil⟩,fun _=>rfl⟩
  | cons a as ih =>
    intro ds vs r hv
    cases r with
    | cons r rs=>exact Zpg (fun hv=>Zen S r hv) (fun hv=>ih rs hv) hv
theorem Zec {d:PyData} (h:okD d) (c:Zkr d=true→PyData.canLay0 d=true):shaped d=true:=by
  unfold shaped
  rw [c h.1]
  simpa using h.2
theorem Zqy {mg mb:Str→Option Value} {p:Addr} {o:AObj} (C:g.c.Ok mg mb) (S:St g.c R H s.heap) (e:H p=some o) (hne:o.isX=false:=by rfl) (hb:o.isB=false:=by rfl):(p == sysModules)=false:=by
  have h1:=leN (Zt9 S e hne hb)
  obtain ⟨mc,hc,_⟩:=C.nolimit
  have h2:=hc.lt
  have h3:@LT.lt Nat _ sysModules cStatics:=by decide
  have h4:@LT.lt Nat _ cStatics g.c.base.objs.size:=h2
  have:@LT.lt Nat _ sysModules p:=by lia
  exact beq_eq_false_iff_ne.mpr (Nat.ne_of_gt this)
noncomputable def eqOp (ne:Bool):CmpOp:=if ne then .NotEq else .Eq
theorem Zx3 {ne:Bool} {a b:AV} {u v:Value} (un:A.units + 64 < cLine) (hu:VR a u) (hv:VR b v) (S:St g.c R H s.heap) (m:Sm s0 s) {da db:PyData} (ra:RD H a da) (rb:RD H b db) (sa:okD da) (sb:okD db) (qq:Q (.bool (nt ne (PyData.eqv da db))) H) :
    wpAny (model g.c.prog g.c.w) A (compareOp (eqOp ne) u v) (TQ g R s0 Q) E s:=by
  obtain ⟨⟨as,ra'⟩,ca⟩:=Zen S ra hu
  obtain ⟨⟨bs,rb'⟩,cb⟩:=Zen S rb hv
  cases ne with
  | true=>exact ne_dataH ra' rb' (Zec sa ca) (Zec sb cb) un (TQ.pure (.bool _) S m qq)
  | false=>exact eq_dataH ra' rb' (Zec sa ca) (Zec sb cb) un (TQ.pure (.bool _) S m qq)
noncomputable def weqO (ne:Bool) (a b:AV) (Q:AV→Zaa→Prop) (H:Zaa):Prop:=∃ da db,RD H a da∧RD H b db∧okD da∧okD db∧Q (.bool (nt ne (PyData.eqv da db))) H
theorem Zvu {ne:Bool} {a b:AV} {u v:Value} {mg mb:Str→Option Value} (C:g.c.Ok mg mb) (un:A.units + 64 < cLine) (un':A.in1.units + 64 < cLine) (hu:VR a u) (hv:VR b v) (S:St g.c R H s.heap) (m:Sm s0 s) (q:weqO ne a b Q H) :
    wpAny (model g.c.prog g.c.w) A (compareOp (eqOp ne) u v) (TQ g R s0 Q) E s:=by
  obtain ⟨da,db,ra,rb,sa,sb,qq⟩:=q
  exact Zx3 un hu hv S m ra rb sa sb qq
theorem s_eq {ne:Bool} {a b:AV} {u v:Value} {e₀:Env} {l₀:List Env} {mg mb:Str→Option Value} (C:g.c.Ok mg mb) (V:Ev g A R e₀ l₀) (hu:VR a u) (hv:VR b v) (S:St g.c R H s.heap) (m:Sm s0 s) (q:weq ne a b Q H) :
    wpAny (model g.c.prog g.c.w) A (compareOp (eqOp ne) u v) (TQ g R s0 Q) E s:=by
  have un:A.units + 64 < cLine:=by have:=V.aok.units;lia
  have un':A.in1.units + 64 < cLine:=by have:=V.aok.units;dsimp only [Around.in1];lia
  cases a with
  | int x=>cases b with
    | int y =>
      cases hu;cases hv
      cases ne with
      | false=>exact eq_int (TQ.pure (.bool _) S m q)
      | true=>exact ne_int (TQ.pure (.bool _) S m q)
    | _=>exact Zvu C un un' hu hv S m q
  | str x=>cases b with
    | str y=>exact Zx3 (da:=.str x) (db:=.str y) un hu hv S m (.str x) (.str y) ⟨rfl,Nat.zero_le _⟩ ⟨rfl,Nat.zero_le _⟩ q
    | _=>exact Zvu C un un' hu hv S m q
  | _=>exact Zvu C un un' hu hv S m q
theorem Zp4 (ch:Nat) (x:Str):(!(Builtin.Str.occurrences x ⟨#[ch]⟩ 0 x.length 1).isEmpty)=x.cps.toList.contains ch:=by
  rw [StrLaws.found_one]
  simp
theorem s_in {no:Bool} {a b:AV} {u v:Value} {e₀:Env} {l₀:List Env} {mg mb:Str→Option Value} (C:g.c.Ok mg mb) (V:Ev g A R e₀ l₀) (hu:VR a u) (hv:VR b v) (S:St g.c R H s.heap) (m:Sm s0 s) (q:win no a b Q H) :
    wpAny (model g.c.prog g.c.w) A (compareOp (if no then .NotIn else .In) u v) (TQ g R s0 Q) E s:=by
  have un:A.units + 1 + 64 < cLine:=by have:=V.aok.units;lia
  cases hv with
  | ref p =>
    obtain ⟨o,e⟩:∃ o,H p=o:=⟨_,rfl⟩
    rw [Zfr,e] at q
    cases o with
    | none=>exact q.elim
    | some o =>
    cases o with
    | list ys =>
      obtain ⟨d,ds,r1,r2,q1,q2,qq⟩:=q
      obtain ⟨⟨as,r1'⟩,c1⟩:=Zen S r1 hu
      obtain ⟨⟨bs,r2'⟩,c2⟩:=Zen S (.list e r2) (.ref p)
      have dd:d.depth≤64:=q1.2
      replace q1:=Zec q1 c1
      replace q2:PyData.canLayAll0 ds=true:=c2 q2
      cases no with
      | true=>exact notIn_list_reads r2' r1' q2 (canLay_of_shaped q1) (by lia) (TQ.pure (.bool _) S m (by exact qq))
      | false=>exact in_list_reads r2' r1' q2 (canLay_of_shaped q1) (by lia) (TQ.pure (.bool _) S m (by exact qq))
    | dict ep es=>cases hu with
      | str k t hk =>
        obtain ⟨kvs,hd,hr⟩:=Zcp S e
        have hds:(p == sysModules)=false:=Zqy C S e
        have ho:=(hr.look k).isSome
        cases no with
        | true =>
          refine wpAny_notIn_of (strKind_is _ _ k t) hds hd.dictOf.mapOf (TQ.toks (.bool _) S m ?_)
          rw [ho];exact q
        | false =>
          refine wpAny_in_of (strKind_is _ _ k t) hds hd.dictOf.mapOf (TQ.toks (.bool _) S m ?_)
          rw [ho];exact q
      | _=>exact q.elim
    | _=>exact q.elim
  | str y t hy=>cases hu with
    | str x t' hx =>
      obtain ⟨ch,rfl,qq⟩:=q
      cases no with
      | true =>
        refine notIn_str (TQ.pure (.bool _) S m ?_)
        rw [Zp4];exact qq
      | false =>
        refine in_str (TQ.pure (.bool _) S m ?_)
        rw [Zp4];exact qq
    | _=>exact q.elim
  | _=>exact q.elim
end
end Mine
end
section
open PySem PySem.W PyProof.Rows PySem.Spec PySem.SeqAt PySem.Calls
namespace Mine
section
variable {g:Gx} {A:Around} {R:RR} {s0 s:Shared} {H:Zaa} {E:Value→Shared→Prop} {Q:AV→Zaa→Prop}
set_option tactic.hygienic true in
theorem Zhv {a:AV} {u:Value} (hu:VR a u) (c:Bool):isSame u (.bool c)=pure (a == .bool c):=by
  cases hu <;> first | rfl | (rename_i b;cases c <;> cases b <;> rfl)
theorem Zgi {a:AV} {u:Value} (hu:VR a u):isSame u .none=pure (a == .none):=by
  cases hu <;> rfl
theorem Zno {op:CmpOp} {a b:AV} {u v:Value} {e₀:Env} {l₀:List Env} {mg mb:Str→Option Value} (C:g.c.Ok mg mb) (V:Ev g A R e₀ l₀) (hu:VR a u) (hv:VR b v) (S:St g.c R H s.heap) (m:Sm s0 s)
    (q:wcmp op a b Q H):wpAny (model g.c.prog g.c.w) A (compareOp op u v) (TQ g R s0 Q) E s:=by
  cases op with
  | Eq=>exact s_eq (ne:=false) C V hu hv S m q
  | NotEq=>exact s_eq (ne:=true) C V hu hv S m q
  | In=>exact s_in (no:=false) C V hu hv S m q
  | NotIn=>exact s_in (no:=true) C V hu hv S m q
  | Is =>
    show wpAny _ _ (do return Value.bool (← isSame u v):Sem Value) _ _ _
    cases hv with
    | none=>rw [Zgi hu];exact wpAny_bind (wpAny_pure (wpAny_pure (TQ.pure (.bool _) S m q)))
    | bool b=>rw [Zhv hu];exact wpAny_bind (wpAny_pure (wpAny_pure (TQ.pure (.bool _) S m q)))
    | _=>exact q.elim
  | IsNot =>
    show wpAny _ _ (do return Value.bool (!(← isSame u v)):Sem Value) _ _ _
    cases hv with
    | none=>rw [Zgi hu];exact wpAny_bind (wpAny_pure (wpAny_pure (TQ.pure (.bool _) S m q)))
    | bool b=>rw [Zhv hu];exact wpAny_bind (wpAny_pure (wpAny_pure (TQ.pure (.bool _) S m q)))
    | _=>exact q.elim
  | Lt=>exact Zdd (m:=fun u v=>wpAny _ A (compareOp .Lt u v) (TQ g R s0 Q) E s) hu hv q fun _ _ _ _ q=>lt_int (TQ.pure (.bool _) S m q)
  | LtE=>exact Zdd (m:=fun u v=>wpAny _ A (compareOp .LtE u v) (TQ g R s0 Q) E s) hu hv q fun _ _ _ _ q=>le_int (TQ.pure (.bool _) S m q)
  | Gt=>exact Zdd (m:=fun u v=>wpAny _ A (compareOp .Gt u v) (TQ g R s0 Q) E s) hu hv q fun _ _ _ _ q=>gt_int (TQ.pure (.bool _) S m q)
  | GtE=>exact Zdd (m:=fun u v=>wpAny _ A (compareOp .GtE u v) (TQ g R s0 Q) E s) hu hv q fun _ _ _ _ q=>ge_int (TQ.pure (.bool _) S m q)
theorem Zj1 {n:Nat} {i:Int} {j:Nat} (h:Zfy n i=some j):seqIndex? i n=some j:=by
  unfold Zfy at h
  unfold seqIndex?
  split at h
  · split at h
    · cases h;have:¬ i < 0:=by omega
      simp only [this,if_false];rw [if_pos (by simp;omega)]
    · cases h
  · split at h
    · cases h;have:i < 0:=by omega
      simp only [this,if_true];rw [if_pos (by simp;omega)]
    · cases h
theorem Zso {n:Nat} {i:Int} {j:Nat} (h:Zfy n i=some j):j < n∧(0≤i→j=i.toNat)∧(i < 0→j=(i + n).toNat∧-(n:Int)≤i):=by
  unfold Zfy at h
  split at h
  · split at h
    · cases h;omega
    · cases h
  · split at h
    · cases h;omega
    · cases h
theorem Z0g {value slice:PySem.Expr} {a i:AV} {u v:Value} {mg mb:Str→Option Value} (_C:g.c.Ok mg mb) (hu:VR a u) (hv:VR i v) (S:St g.c R H s.heap) (m:Sm s0 s) (q:wsub a i Q H)
    (hs:∀ o j,subscripted slice false o j=operate [o,j] (getItem o j)):wpAny (model g.c.prog g.c.w) A (subscriptTail value slice u v) (TQ g R s0 Q) E s:=by
  cases hu with
  | ref p=>
    obtain ⟨o,e⟩:∃ o,H p=o:=⟨_,rfl⟩
    cases hv with
    | int i t =>
      rw [Zfb,e] at q
      cases o with
      | none=>exact q.elim
      | some o =>
      cases o with
      | list xs =>
        obtain ⟨j,x,h1,h2,h3,h4,qq⟩:=q
        obtain ⟨vs,n,k1,k2,k3⟩:=Za9 S e
        obtain ⟨y,y1,y2⟩:=k2.get h4
        obtain ⟨p1,p2,p3⟩:=Zso h1
        rw [k2.length] at p3
        refine tail_any k3.typeIs slot_list_getitem.lookup ?_ (hs _ _)
        by_cases hz:0≤i
        · exact wpAny_getItem_list k3 hz h2 (by rw [← p2 hz];simpa using y1) (TQ.pure y2 S m qq)
        · have hz:=Int.not_le.mp hz
          obtain ⟨p4,p5⟩:=p3 hz
          exact wpAny_getItem_list_neg k3 hz (by simpa using p5) h3 (by simp only [List.size_toArray];rw [← p4];simpa using y1) (TQ.pure y2 S m qq)
      | tuple xs =>
        obtain ⟨j,x,h1,h2,h3,h4,qq⟩:=q
        obtain ⟨vs,n,k1,k2,k3⟩:=Zcy S e
        obtain ⟨y,y1,y2⟩:=k2.get h4
        refine tail_any k3.typeIs slot_tuple_getitem.lookup ?_ (hs _ _)
        exact getItem_tuple k3 h3 h2 (by simp only [List.size_toArray];rw [← k2.length];exact Zj1 h1) (by simpa using y1) (TQ.pure y2 S m qq)
      | script ns =>
        obtain ⟨h1,h2,nn,h3,qq⟩:=q
        obtain ⟨⟨D,vs,n,k1,k2⟩,_⟩:=S.orep e
        obtain ⟨y,y1,y2⟩:=k2.get (i:=i.toNat) (a:=.int nn) (by rw [List.getElem?_map,h3];rfl)
        have k3:s.heap.IsList _ vs.toArray:=⟨_,k1,rfl,_,rfl⟩
        refine tail_any k3.typeIs slot_list_getitem.lookup ?_ (hs _ _)
        exact wpAny_getItem_list k3 h1 h2 (by simpa using y1) (TQ.pure y2 S m qq)
      | _=>exact q.elim
    | str k t hk =>
      rw [Zhb,e] at q
      cases o with
      | none=>exact q.elim
      | some o =>
      cases o with
      | dict ep es =>
        obtain ⟨x,hx,qq⟩:=q
        obtain ⟨kvs,hd,hr⟩:=Zcp S e
        have ho:=hr.look k
        rw [hx] at ho
        generalize hval:valueAt kvs k=y at ho
        cases ho with
        | some hv =>
          refine tail_any hd.dictOf.typeIs slot_dict_getitem.lookup ?_ (hs _ _)
          exact wpAny_getItem_of (strKind_is _ _ k t) hd.dictOf.mapOf hval (TQ.toks hv S m qq)
      | _=>exact q.elim
    | _=>exact q.elim
  | str x t hx=>cases hv with
    | int i u =>
      obtain ⟨h1,h2,ch,h3,qq⟩:=q
      refine tail_any (typeIs_str s _ t) slot_str_getitem.lookup ?_ (hs _ _)
      have hlt:i.toNat < x.cps.size:=(Array.getElem?_eq_some_iff.mp h3).1
      refine getItem_str (by simp;omega) (c:=ch) ?_ (TQ.toks (.str _ _ ?_) S m qq)
      · have:seqIndex? i x.length=some i.toNat:=Zj1 (by unfold Zfy;rw [if_pos h1,if_pos (show i < ((x.length:Nat):Int) from show i < ((x.cps.size:Nat):Int) by omega)])
        rw [this];exact h3
      · have hm:=Array.mem_of_getElem? h3
        exact Zi8 (l:=[ch]) (by intro c hc;rw [List.mem_singleton.mp hc];exact Zhd hx hm)
    | _=>exact q.elim
  | _=>exact q.elim
theorem VRs.filterMap {xs:List AV} {vs:List Value} (h:VRs xs vs):∀ ks:List Nat,VRs (ks.filterMap (xs[·]?)) (ks.filterMap (vs[·]?))
  | []=>.nil
  | k :: r=>by
    have ih:=VRs.filterMap h r
    dsimp only [List.filterMap_cons]
    cases e:xs[k]? with
    | none =>
      have:vs[k]? = none:=by rw [List.getElem?_eq_none_iff] at e ⊢;rw [← h.length];exact e
      rw [this];exact ih
    | some a =>
      obtain ⟨v,hv,hr⟩:=h.get e
      rw [hv];exact .cons hr ih
theorem Zpl {x:Str} {a b:Nat} {l u:Option (Int×Tok)} (hab:a≤b) (hb:b≤x.length) (hl:l.map (·.1)=some (a:Int)∨(l=none∧a=0)) (hu:u.map (·.1)=some (b:Int)∨(u=none∧b=x.length)):slicePicked x l u none=Builtin.Str.strSliceIndices (some (a:Int)) (some (b:Int)) 1 x.length:=by
  show Builtin.Str.strSliceIndices _ _ 1 x.length=_
  rcases hl with hl | ⟨rfl,rfl⟩ <;> rcases hu with hu | ⟨rfl,rfl⟩
  · rw [hl,hu]
  · rw [hl];exact StrLaws.sliceIdx_none_hi _ _
  · rw [hu];exact StrLaws.sliceIdx_none_lo _ _
  · exact (StrLaws.sliceIdx_none_lo _ _).trans (StrLaws.sliceIdx_none_hi _ _)
theorem Zi9 {x:Str}:x.cps.toList.length=x.length:=by simp [Str.length]
set_option tactic.hygienic true in
theorem Zj0 {x:Str} {tk:Tok} {a b:Nat} {l u:Option (Int×Tok)} {z:Addr} (hx:PyData.strOk x=true) (hab:a≤b) (hb:b≤x.length) (hz:x.length≤sizeLine) (hl:l.map (·.1)=some (a:Int)∨(l=none∧a=0)) (hu:u.map (·.1)=some (b:Int)∨(u=none∧b=x.length)) (q:Q (.str ⟨((x.cps.toList.drop a).take (b - a)).toArray⟩) H) (hsl:s.heap.IsSlice z l u none) (S:St g.c R H s.heap) (m:Sm s0 s) :
    wpAny (model g.c.prog g.c.w) A (getItem (.str x tk) (.ref z)) (TQ g R s0 Q) E s:=by
  refine wpAny_getItem_str_slice hsl rfl ?_
  have e0:=Zpl hab hb hl hu
  have el:(slicePicked x l u none).length=b - a:=by
    rw [e0,StrLaws.strSliceIndices_plain hab hb,List.length_map,List.length_range]
  have e:(slicePicked x l u none).filterMap (x.cps[·]?)=(x.cps.toList.drop a).take (b - a):=by
    rw [e0];exact StrLaws.sliced_plain x hab hb
  unfold sliceMade
  split
  · rename_i hc
    refine TQ.pure (.str _ tk hx) S m ?_
    have hc':b - a=x.length:=by
      have:=(Bool.and_eq_true_iff.mp hc).2
      rw [el] at this
      simpa using this
    have:(⟨((x.cps.toList.drop a).take (b - a)).toArray⟩:Str)=x:=by
      rw [hc',show a=0 by omega,List.drop_zero,List.take_of_length_le (Nat.le_of_eq Zi9),Array.toArray_toList]
    rw [this] at q;exact q
  · rw [e]
    refine ⟨?_,TQ.toks (.str _ _ ?_) S m q⟩
    · show (List.toArray _).size≤sizeLine
      rw [List.size_toArray,List.length_take,List.length_drop,Zi9];omega
    · exact Zi8 fun ch hc=>Zhd hx (by have:=List.mem_of_mem_drop (List.mem_of_mem_take hc);simpa using this)
theorem part_of {x:Option AV} {v:Value} {k:Option Int} (h:(x=none∧v = .none)∨∃ y,x=some y∧VR y v) (e:Zh7 x=some k):IsPart v k:=by
  rcases h with ⟨rfl,rfl⟩ | ⟨y,rfl,hv⟩
  · cases e;exact .none
  · cases hv <;> cases e
    exact .int _ _
theorem Zlu {v:Value} (h:((none:Option AV)=none∧v = .none)∨∃ y,(none:Option AV)=some y∧VR y v):v = .none:=h.elim (·.2) fun ⟨_,e,_⟩=>by cases e
theorem Zmy {v:Value} {i:Int} (h:(some (AV.int i)=none∧v = .none)∨∃ y,some (AV.int i)=some y∧VR y v):∃ t,v = .int i t:=by
  rcases h with ⟨z,_⟩ | ⟨y,z,hv⟩
  · cases z
  · cases z
    cases hv with
    | int _ t=>exact ⟨t,rfl⟩
theorem Zvq {value:PySem.Expr} {lo hi st:Option PySem.Expr} {p:Pos} {a:AV} {l u t:Option AV} {o vl vu vt:Value} (hu:VR a o)
    (hl:(l=none∧vl = .none)∨∃ x,l=some x∧VR x vl) (hh:(u=none∧vu = .none)∨∃ x,u=some x∧VR x vu) (ht:(t=none∧vt = .none)∨∃ x,t=some x∧VR x vt)
    (S:St g.c R H s.heap) (m:Sm s0 s) (q:Zg2 a l u t Q H) :
    wpAny (model g.c.prog g.c.w) A (subscriptTail value (.Slice lo hi st p) o (.ref s.heap.objs.size)) (TQ g R s0 Q) E { s with heap:=s.heap.push { cls:=.type "slice",data:=.fields #[vl,vu,vt] } }:=by
  have hs:∀ o j,∃ ops,subscripted (.Slice lo hi st p) false o j=operate ops (getItem o j):=by
    intro o j
    cases st with
    | none=>exact ⟨_,rfl⟩
    | some _=>exact ⟨_,rfl⟩
  cases hu with
  | ref pa =>
    obtain ⟨oo,e⟩:∃ oo,H pa=oo:=⟨_,rfl⟩
    rw [Zui,e] at q
    cases oo with
    | none=>exact q.elim
    | some oo =>
    cases oo with
    | list xs =>
      obtain ⟨li,ui,ti,e1,e2,e3,h0,hz,qq⟩:=q
      obtain ⟨vs,n,k1,k2,k3⟩:=Za9 S e
      obtain ⟨ops,hop⟩:=hs (.ref pa) (.ref s.heap.objs.size)
      refine tail_any (Heap.IsList.typeIs (s:={ s with heap:=s.heap.push _ }) (k3.push _)) slot_list_getitem.lookup ?_ hop
      refine wpAny_getItem_list_slice (k3.push _) (Heap.IsSliceOf.new ..) (part_of hl e1) (part_of hh e2) (part_of ht e3) h0 ?_ (by simp only [List.size_toArray];rw [← k2.length];exact hz)
      have hp:VRs (Zgn xs li ui ti) (Zgn vs li ui ti):=by
        unfold Zgn;rw [k2.length];exact k2.filterMap _
      dsimp only
      rw [Heap.size_push]
      refine Zfi (n:=0) (vs:=Zgn vs li ui ti) S m hp (Nat.le_succ _) (fun _ _ z=>Heap.get?_push_of_some _ (Heap.get?_push_of_some _ z)) (by rw [Heap.size_push,Heap.size_push];exact Nat.le_add_right _ 2) ?_ qq
      have:=Heap.get?_push_size (s.heap.push { cls:=.type "slice",data:=.fields #[vl,vu,vt] }) (o:={ cls:=.type "list",data:=.seq (slicePick vs.toArray li ui ti) }) rfl
      rw [Heap.size_push] at this
      rw [this]
      simp [slicePick,Zgn]
    | _=>exact q.elim
  | str x tk hx =>
    obtain ⟨ops,hop⟩:=hs (.str x tk) (.ref s.heap.objs.size)
    refine tail_any (typeIs_str _ _ tk) slot_str_getitem.lookup ?_ hop
    cases t with
    | some=>cases l with
      | none=>cases u with
        | none=>exact q.elim
        | some y=>cases y <;> exact q.elim
      | some y=>cases u <;> cases y <;> exact q.elim
    | none =>
    cases Zlu ht
    cases l with
    | none=>cases u with
      | none=>exact q.elim
      | some y=>cases y with
        | int ui =>
          rw [Z0c] at q
          obtain ⟨h1,h2,h3,qq⟩:=q
          cases Zlu hl
          obtain ⟨t1,rfl⟩:=Zmy hh
          refine Zj0 (s:={ s with heap:=_ }) (a:=0) (b:=ui.toNat) (l:=none) (u:=some (ui,t1)) hx (Nat.zero_le _) (by omega) h3 (.inr ⟨rfl,rfl⟩) (.inl (by show some ui=_;rw [Int.toNat_of_nonneg h1])) ?_ ⟨_,Heap.get?_push_size _ rfl,rfl,rfl⟩ (S.push _) (m.heap _)
          rw [List.drop_zero,Nat.sub_zero];exact qq
        | _=>exact q.elim
    | some y=>cases u with
      | some=>cases y <;> exact q.elim
      | none=>cases y with
        | int li =>
          rw [Z0b] at q
          obtain ⟨h1,h2,h3,qq⟩:=q
          cases Zlu hh
          obtain ⟨t1,rfl⟩:=Zmy hl
          refine Zj0 (s:={ s with heap:=_ }) (a:=li.toNat) (b:=x.length) (l:=some (li,t1)) (u:=none) hx (by omega) (Nat.le_refl _) h3 (.inl (by show some li=_;rw [Int.toNat_of_nonneg h1])) (.inr ⟨rfl,rfl⟩) ?_ ⟨_,Heap.get?_push_size _ rfl,rfl,rfl⟩ (S.push _) (m.heap _)
          rw [List.take_of_length_le (by rw [List.length_drop,Zi9];exact Nat.le_refl _)];exact qq
        | _=>exact q.elim
  | _=>exact q.elim
end
end Mine
end
section
open PySem PyProof.Rows
namespace Mine
section
variable {prog:Program} {w:World} {A:Around} {E:Value→Shared→Prop} {s:Shared}
theorem Zru (a b c:Value):argsOk "min" ⟨[a,b,c],[]⟩:=by unfold argsOk;kernel_rfl
theorem Zrn {a b c:Value} {Q:Value→Shared→Prop}
    (h:wpAny (model prog w) A.in1 (pyIter (.ref s.heap.objs.size)) (fun it s₂=>∃ I fp wr n P St bt,it = .ref I∧Walks prog w A.in1 I fp wr n P St∧St 0 s₂.heap∧(∀ b∈fp,b < s₂.heap.objs.size)∧0 < n∧CmpOf prog w A.in1 .Lt P bt ∧
      ∀ v h' tk,P (argBest bt (n - 1)) v→(∀ b o,b ∉ wr→s₂.heap.get? b=some o→h'.get? b=some o)→Q v { s₂ with heap:=h',toks:=tk }) E
      { s with heap:=s.heap.push { cls:=.type "tuple",data:=.seq #[a,b,c] } }) :
    wpAny (model prog w) A (call (.builtin "min") [a,b,c]) Q E s:=by
  have hname:(toString "min" ++ toString ".loop":String) = "min.loop":=by decide
  refine call_function_tree F.kind_min F.plain_min F.entry_min (Zru _ _ _) ?_
  show wpAny _ A.in1 (Builtin.Builtins.bindParams "min" ["key","default"] 0 ⟨[],[]⟩ >>= _) _ _ s
  refine wpAny_bind (wpAny_of_eq (show Builtin.Builtins.bindParams "min" ["key","default"] 0 ⟨[],[]⟩ = pure [none,none] from rfl) ?_)
  show wpAny _ A.in1 (newTuple [a,b,c] >>= _) _ _ s
  refine wpAny_bind (wpAny_newObj_type ?_)
  refine wpAny_bind (wpAny_mono h (fun it s₂ h₂=>?_) fun _ _ e=>e)
  obtain ⟨I,fp,wr,n,P,St,bt,rfl,W,hst,hfp,hn,hcmp,hQ⟩:=h₂
  refine wpAny_bind (wpAny_newObj_type ?_)
  have hSf:s₂.heap.objs.size ∉ fp:=fun hm=>Nat.lt_irrefl _ (hfp _ hm)
  rw [hname]
  refine wpAny_pure ⟨plainId_quiet F.plain_min_loop _,codeAny_min_loop_first W bt hcmp s₂.heap.objs.size hSf hn (W.frame _ _ _ hst fun b _ o e=>Heap.get?_push_of_some _ e) (Heap.get?_push_size _ rfl) fun v h' tk hP hk=>?_⟩
  exact hQ v h' tk hP fun b o hbw e=>hk b o hbw (Nat.ne_of_lt (Heap.lt_size e)) (Heap.get?_push_of_some _ e)
theorem Zqb {a b c:Int} {t u v:Tok} {Q:Value→Shared→Prop} (hh:A.handled=none)
    (h:∀ h' tk t',(∀ c o,s.heap.get? c=some o→h'.get? c=some o)→Q (.int (min a (min b c)) t') { s with heap:=h',toks:=tk }) :
    wpAny (model prog w) A (call (.builtin "min") [.int a t,.int b u,.int c v]) Q E s:=by
  have hT:(s.heap.push { cls:=.type "tuple",data:=.seq #[.int a t,.int b u,.int c v] }).IsTuple s.heap.objs.size (intItems #[(a,t),(b,u),(c,v)]):=⟨_,Heap.get?_push_size _ rfl,rfl,0,by simp [intItems]⟩
  refine Zrn (wpAny_pyIter_tuple hT ?_)
  have hsz:(s.heap.push { cls:=.type "tuple",data:=.seq #[.int a t,.int b u,.int c v] }).objs.size=s.heap.objs.size + 1:=Heap.size_push ..
  refine ⟨_,[_,s.heap.objs.size],[_],_,_,_,_,rfl,Walks.tuple (A:=A.in1) hh _ s.heap.objs.size (by rw [hsz];exact Nat.ne_of_lt (Nat.lt_succ_self _)) (intItems #[(a,t),(b,u),(c,v)]),
    ⟨⟨_,Heap.get?_push_size _ rfl,rfl,rfl⟩,hT.push _⟩,fun c hc=>?_,by simp [intItems],CmpOf.ints_lt (numAt #[(a,t),(b,u),(c,v)]) (fun _ _=>intItems_at),fun w' h' tk hP hk=>?_⟩
  · show c < ((s.heap.push _).push _).objs.size
    rw [Heap.size_push,hsz]
    rcases List.mem_cons.mp hc with rfl | hc
    · rw [hsz];exact Nat.lt_succ_self _
    · rcases List.mem_cons.mp hc with rfl | hc
      · exact Nat.lt_succ_of_lt (Nat.lt_succ_self _)
      · cases hc
  · have hold:∀ c o,s.heap.get? c=some o→h'.get? c=some o:=fun c o e=>by
      refine hk c o (fun hm=>?_) (Heap.get?_push_of_some _ (Heap.get?_push_of_some _ e))
      rcases List.mem_cons.mp hm with e1 | hm
      · have:=Heap.lt_size e;rw [e1,hsz] at this;exact Nat.lt_irrefl _ (Nat.lt_of_succ_lt this)
      · cases hm
    rw [show (intItems #[(a,t),(b,u),(c,v)]).size - 1=2 by simp [intItems]] at hP
    obtain ⟨t',rfl⟩:=intItems_at hP
    have e:numAt #[(a,t),(b,u),(c,v)] (argBest (fun i j=>decide (numAt #[(a,t),(b,u),(c,v)] i < numAt #[(a,t),(b,u),(c,v)] j)) 2)=min a (min b c):=by
      have n0:numAt #[(a,t),(b,u),(c,v)] 0=a:=rfl
      have n1:numAt #[(a,t),(b,u),(c,v)] 1=b:=rfl
      have n2:numAt #[(a,t),(b,u),(c,v)] 2=c:=rfl
      generalize numAt #[(a,t),(b,u),(c,v)]=f at n0 n1 n2
      by_cases h1:b < a <;> by_cases h2:c < b <;> by_cases h3:c < a <;> simp [argBest,n0,n1,n2,h1,h2,h3] <;> omega
    have:=h h' tk t' hold
    rw [← e] at this
    exact this
end
end Mine
end
section
open PySem PySem.W PyProof.Rows PySem.Spec PySem.SeqAt PySem.Calls
namespace Mine
section
variable {g:Gx} {A:Around} {R:RR} {s0 s:Shared} {H:Zaa} {E:Value→Shared→Prop} {Q:AV→Zaa→Prop}
set_option tactic.hygienic true in
theorem Z0l {a:AV} {u:Value} {k ty:String} {b:Bool} (hu:VR a u) (S:St g.c R H s.heap) (m:Sm s0 s) (hk:Zgm H a=some k) (hty:ty = "int"∨ty = "bool"∨ty = "str"∨ty = "list")
    (hb:(k == ty || (k == "bool" && ty == "int"))=b) (q:Q (.bool b) H):wpAny (model g.c.prog g.c.w) A (call (.builtin "isinstance") [u,.type ty]) (TQ g R s0 Q) E s:=by
  subst hb
  cases hu with
  | none =>
    cases hk
    rcases hty with rfl | rfl | rfl | rfl
    · exact IsiPair.NoneType_int (TQ.toks (.bool _) S m q)
    · exact IsiPair.NoneType_bool (TQ.toks (.bool _) S m q)
    · exact IsiPair.NoneType_str (TQ.toks (.bool _) S m q)
    · exact IsiPair.NoneType_list (TQ.toks (.bool _) S m q)
  | bool b =>
    cases hk
    rcases hty with rfl | rfl | rfl | rfl
    · exact IsiPair.bool_int (TQ.pure (.bool _) S m q)
    · exact IsiPair.bool_bool (TQ.pure (.bool _) S m q)
    · exact IsiPair.bool_str (TQ.toks (.bool _) S m q)
    · exact IsiPair.bool_list (TQ.toks (.bool _) S m q)
  | int i t =>
    cases hk
    rcases hty with rfl | rfl | rfl | rfl
    · exact IsiPair.int_int (TQ.pure (.bool _) S m q)
    · exact IsiPair.int_bool (TQ.toks (.bool _) S m q)
    · exact IsiPair.int_str (TQ.toks (.bool _) S m q)
    · exact IsiPair.int_list (TQ.toks (.bool _) S m q)
  | str x t hx =>
    cases hk
    rcases hty with rfl | rfl | rfl | rfl
    · exact IsiPair.str_int (TQ.toks (.bool _) S m q)
    · exact IsiPair.str_bool (TQ.toks (.bool _) S m q)
    · exact IsiPair.str_str (TQ.pure (.bool _) S m q)
    · exact IsiPair.str_list (TQ.toks (.bool _) S m q)
  | ref p =>
    unfold Zgm at hk
    dsimp only at hk
    split at hk
    · rename_i xs e
      cases hk
      obtain ⟨vs,n,h1,h2,h3⟩:=Za9 S e
      rcases hty with rfl | rfl | rfl | rfl
      · exact IsiPair.list_int h1 rfl (TQ.toks (.bool _) S m q)
      · exact IsiPair.list_bool h1 rfl (TQ.toks (.bool _) S m q)
      · exact IsiPair.list_str h1 rfl (TQ.toks (.bool _) S m q)
      · exact IsiPair.list_list h1 rfl (TQ.pure (.bool _) S m q)
    · rename_i xs e
      cases hk
      obtain ⟨vs,n,h1,h2,h3⟩:=Zcy S e
      rcases hty with rfl | rfl | rfl | rfl
      · exact IsiPair.tuple_int h1 rfl (TQ.toks (.bool _) S m q)
      · exact IsiPair.tuple_bool h1 rfl (TQ.toks (.bool _) S m q)
      · exact IsiPair.tuple_str h1 rfl (TQ.toks (.bool _) S m q)
      · exact IsiPair.tuple_list h1 rfl (TQ.toks (.bool _) S m q)
    · rename_i ep es e
      cases hk
      obtain ⟨kvs,⟨o,ents,h1,h2,h3⟩,hr⟩:=Zcp S e
      rcases hty with rfl | rfl | rfl | rfl
      · exact IsiPair.dict_int h1 h2.1 (TQ.toks (.bool _) S m q)
      · exact IsiPair.dict_bool h1 h2.1 (TQ.toks (.bool _) S m q)
      · exact IsiPair.dict_str h1 h2.1 (TQ.toks (.bool _) S m q)
      · exact IsiPair.dict_list h1 h2.1 (TQ.toks (.bool _) S m q)
    · cases hk
noncomputable def Zjg:Pr→Value
  | .len=>.builtin "len"
  | .list=>.type "list"
  | .int=>.type "int"
  | .range=>.type "range"
  | .sum=>.builtin "sum"
  | .all=>.builtin "all"
  | .min=>.builtin "min"
  | .max=>.builtin "max"
  | .min3=>.builtin "min"
noncomputable def Zgv:String→Value
  | "len"=>.builtin "len"
  | "list"=>.type "list"
  | "int"=>.type "int"
  | "range"=>.type "range"
  | "sum"=>.builtin "sum"
  | "all"=>.builtin "all"
  | "min"=>.builtin "min"
  | "max"=>.builtin "max"
  | "isinstance"=>.builtin "isinstance"
  | "bool"=>.type "bool"
  | "str"=>.type "str"
  | "ValueError"=>.type "ValueError"
  | _=>.builtin "?"
theorem Zj2 (f:Pr):Zgv f.str=Zjg f:=by cases f <;> rfl
theorem Znt (f:Pr):(∃ i,Zjg f = .builtin i)∨∃ i,Zjg f = .type i:=by
  cases f <;> first | exact .inl ⟨_,rfl⟩ | exact .inr ⟨_,rfl⟩
theorem St.kept {h h':Heap} {e₀:Env} {l₀:List Env} (ev:Ev g A R e₀ l₀) (S:St g.c R H h) (k:∀ b o,h.get? b=some o→h'.get? b=some o):St g.c R H h':=by
  obtain ⟨m,hm⟩:=(ev.stk e₀ (List.mem_cons_self ..)).ns
  obtain ⟨o,_,_,w,_⟩:=(S.res _ _ hm).2
  have h1:=(S.res _ _ hm).1
  have h2:=lts (k _ _ w)
  obtain ⟨H₁,⟨s1,s2,s3,D,s4⟩,r⟩:=S
  exact ⟨H₁,⟨fun b o e=>k b o (s1 b o e),Nat.le_of_lt (Nat.lt_of_le_of_lt h1 h2),fun b r e=>⟨(s3 b r e).1,(s3 b r e).2.agree fun _=>k _ _⟩,D,
    ⟨fun a o e=>(s4.rep a o e).agree (fun _=>k _ _) fun _ _ _=>⟨rfl,fun _=>k _ _⟩,s4.above,s4.dict,s4.inj⟩⟩,r⟩
theorem Zod {K:Type} {kvs:List (K×Value)} {acc:Array Value} (h:ItemsOf (fun i v=>∃ k,kvs[i]? = some (k,v)) acc kvs.length):acc.toList=kvs.map (·.2):=by
  obtain ⟨h1,h2⟩:=h
  exact kdl_vals_eq acc.toList (by simpa using h1) fun j v e=>h2 j v (by simpa using e)
theorem DRs.key {es:List (Str×AV)} {kvs:List (Str×Value)} (h:DRs es kvs):∀ {k:Nat} {n:Str} {v:Value},kvs[k]? = some (n,v)→∃ a,es[k]? = some (n,a)∧PyData.strOk n=true:=by
  induction h with
  | nil=>intro k n a e;simp at e
  | cons h1 h2 _ ih =>
    intro k n a e
    cases k with
    | zero=>simp at e;obtain ⟨rfl,rfl⟩:=e;exact ⟨_,rfl,h1⟩
    | succ k=>exact ih (by simpa using e)
theorem Zvs {p:Addr} {e₀:Env} {l₀:List Env} {mg mb:Str→Option Value} (C:g.c.Ok mg mb) (ev:Ev g A R e₀ l₀) (S:St g.c R H s.heap) (m:Sm s0 s) (q:Zdz g.md .list [.ref p] Q H) :
    wpAny (model g.c.prog g.c.w) A (call (.type "list") [.ref p]) (TQ g R s0 Q) E s:=by
  obtain ⟨oo,e⟩:∃ oo,H p=oo:=⟨_,rfl⟩
  rw [Zf0,e] at q
  cases oo with
  | none=>exact q.elim
  | some oo =>
  cases oo with
  | list xs =>
    obtain ⟨vs,n,k1,k2,k3⟩:=Za9 S e
    have hl:=k2.length
    refine call_list_seq (hsz:=by simp only [List.size_toArray];rw [← hl];exact q.1) _ (.inl rfl) k1 rfl rfl fun h' c' hk hD=>?_
    exact Zfi (s:=s) S m k2 (Nat.le_refl _) hk (Nat.le_of_lt (lts hD)) hD q.2
  | tuple xs =>
    obtain ⟨vs,n,k1,k2,k3⟩:=Zcy S e
    have hl:=k2.length
    refine call_list_seq (hsz:=by simp only [List.size_toArray];rw [← hl];exact q.1) _ (.inr rfl) k1 rfl rfl fun h' c' hk hD=>?_
    exact Zfi (s:=s) S m k2 (Nat.le_refl _) hk (Nat.le_of_lt (lts hD)) hD q.2
  | vals d =>
    obtain ⟨oo,e'⟩:∃ oo,H d=oo:=⟨_,rfl⟩
    dsimp only at q
    rw [e'] at q
    cases oo with
    | none=>exact q.elim
    | some oo =>
    cases oo with
    | dict ep es =>
      obtain ⟨hmd,hz,q⟩:=q
      obtain ⟨kvs,hd,hr⟩:=Zcp S e'
      have hl:=hr.length
      obtain ⟨⟨D,hv⟩,_⟩:=S.orep e
      refine kdl_call (kdl_values (knd:=strKind g.c.prog g.c.w) (kvs:=kvs) (ep:=ep)) (ev.aok.hand hmd) ⟨⟨_,hv,rfl,rfl⟩,hd⟩ (by rw [hl];exact hz) fun h' tk acc' c' hk hD hi=>?_
      refine Zfi (s:=s) (n:=c') S m (vs:=acc'.toList) ?_ (Nat.le_refl _) hk (Nat.le_of_lt (lts hD)) (by rw [hD]) q
      rw [Zod hi];exact hr.vals
    | _=>exact q.elim
  | _=>exact q.elim
theorem Zj3 {ns:List Int} {val:Nat→Int}:∀ {k:Nat},k≤ns.length→(∀ i x,ns[i]? = some x→val i=x)→preSum val k=(ns.take k).sum
  | 0,_,_=>by simp [preSum]
  | k + 1,hk,h=>by
    have hlt:k < ns.length:=hk
    have e:ns[k]? = some ns[k]:=by simp [hlt]
    rw [preSum,Zj3 (Nat.le_of_lt hlt) h,List.take_add_one,List.sum_append,e,h k _ e]
    show _=_ + List.sum [ns[k]]
    simp
theorem VRs.ints {ns:List Int} {vs:List Value} (h:VRs (ns.map .int) vs):∀ (i:Nat) v,vs[i]? = some v→∃ t,v = .int ((ns[i]?).getD 0) t:=by
  intro i v e
  have hl:=h.length
  rw [List.length_map] at hl
  have hi:i < ns.length:=by have:=(List.getElem?_eq_some_iff.mp e).1;lia
  obtain ⟨v',h1,h2⟩:=h.get (i:=i) (a:=.int ns[i]) (by simp [hi])
  rw [e] at h1;cases h1
  cases h2 with
  | int _ t=>exact ⟨t,by simp [hi]⟩
theorem Zvf {ns:List Int}:preSum (fun i=>(ns[i]?).getD 0) ns.length=ns.sum:=by
  rw [Zj3 (Nat.le_refl _) (fun i x e=>by simp [e]),List.take_length]
theorem Z0f {p:Addr} {e₀:Env} {l₀:List Env} (ev:Ev g A R e₀ l₀) (S:St g.c R H s.heap) (m:Sm s0 s) (q:Zdz g.md .sum [.ref p] Q H) :
    wpAny (model g.c.prog g.c.w) A (call (.builtin "sum") [.ref p]) (TQ g R s0 Q) E s:=by
  rw [Zhn] at q
  obtain ⟨hmd,q⟩:=q
  refine call_sum_walkG ?_
  have hlt:∀ {b o},s.heap.get? b=some o→b≠s.heap.objs.size:=fun e=>Nat.ne_of_lt (lts e)
  obtain ⟨oo,e⟩:∃ oo,H p=oo:=⟨_,rfl⟩
  rw [e] at q
  cases oo with
  | none=>exact q.elim
  | some oo =>
  cases oo with
  | list xs =>
    obtain ⟨ns,rfl,q⟩:=q
    obtain ⟨vs,n,k1,k2,k3⟩:=Za9 S e
    have hl:=k2.length
    rw [List.length_map] at hl
    have W:=Walks.list (prog:=g.c.prog) (w:=g.c.w) (A:=A.in1) (ev.aok.hand hmd) _ _ (hlt k1) vs.toArray
    refine wpAny_pyIter_list k3 ⟨_,_,_,_,_,_,fun i=>(ns[i]?).getD 0,rfl,W,⟨⟨_,Heap.get?_push_size _ rfl,rfl,rfl⟩,k3.push _⟩,fun b hb=>?_,fun i v h=>k2.ints i v (by simpa using h),fun h' tk t' hk=>?_⟩
    · have:=lts k1
      simp only [List.mem_cons,List.not_mem_nil,or_false] at hb
      rcases hb with rfl | rfl
      · show _ < (Heap.push _ _).objs.size;rw [Heap.size_push];exact Nat.lt_succ_self _
      · show _ < (Heap.push _ _).objs.size;rw [Heap.size_push];exact Nat.lt_succ_of_lt this
    · rw [List.size_toArray,← hl,Zvf]
      exact ⟨_,_,.int _ _,S.kept ev fun b o w=>hk b o (by simp only [List.mem_singleton];exact hlt w) (Heap.get?_push_of_some _ w),m.step _ _,q⟩
  | _=>exact q.elim
theorem Z0k {a:AV} {u:Value} {mg mb:Str→Option Value} (C:g.c.Ok mg mb) (hv:VR a u) (S:St g.c R H s.heap) (m:Sm s0 s) (q:wlen a Q H):wpAny (model g.c.prog g.c.w) A (call (.builtin "len") [u]) (TQ g R s0 Q) E s:=by
  cases hv with
  | str s' t hs=>exact len_str (by have:=q.1;lia) (TQ.toks (.int _ _) S m q.2)
  | ref p =>
    obtain ⟨oo,e⟩:∃ oo,H p=oo:=⟨_,rfl⟩
    dsimp only [wlen] at q
    rw [e] at q
    cases oo with
    | none=>exact q.elim
    | some oo =>
    cases oo with
    | list xs =>
      obtain ⟨vs,n,k1,k2,k3⟩:=Za9 S e
      have hl:=k2.length
      refine call_len_list k3 (by simp only [List.size_toArray];have:=q.1;lia) (TQ.toks (.int _ _) S m ?_)
      simp only [List.size_toArray];rw [← hl];exact q.2
    | tuple xs =>
      obtain ⟨vs,n,k1,k2,k3⟩:=Zcy S e
      have hl:=k2.length
      refine PyProof.Rows.len_tuple k3 (by simp only [List.size_toArray];have:=q.1;lia) (TQ.toks (.int _ _) S m ?_)
      simp only [List.size_toArray];rw [← hl];exact q.2
    | dict ep es =>
      obtain ⟨kvs,hd,hr⟩:=Zcp S e
      have hl:=hr.length
      refine call_len_dict (Zqy C S e) hd.dictOf (by have:=q.1;lia) (TQ.toks (.int _ _) S m ?_)
      rw [hl];exact q.2
    | script ns =>
      obtain ⟨⟨D,vs,n,k1,k2⟩,_⟩:=S.orep e
      have hl:=k2.length
      rw [List.length_map] at hl
      refine call_len_list (items:=vs.toArray) ⟨_,k1,rfl,_,rfl⟩ (by simp only [List.size_toArray];have:=q.1;lia) (TQ.toks (.int _ _) S m ?_)
      simp only [List.size_toArray];rw [← hl];exact q.2
    | _=>exact q.elim
  | _=>exact q.elim
theorem Zov {as:List AV} {vs:List Value} {k:Int→Int→Prop} {m:List Value→Prop} (hv:VRs as vs) (q:wi2 as k) (f:∀ x y t t',k x y→m [.int x t,.int y t']):m vs:=by
  cases hv with
  | nil=>exact q.elim
  | cons h1 hr=>exact Zdq (m:=fun r=>m (_ :: r)) hr q fun b v h2 q=>Zdd (m:=fun u v=>m [u,v]) h1 h2 q f
theorem Zva {as:List AV} {vs:List Value} {k:Int→Int→Int→Prop} {m:List Value→Prop} (hv:VRs as vs) (q:wi3 as k) (f:∀ x y z t t' t'',k x y z→m [.int x t,.int y t',.int z t'']):m vs:=by
  cases hv with
  | nil=>exact q.elim
  | cons h1 hr=>cases h1 with
    | int x t=>exact Zov (m:=fun r=>m (_ :: r)) hr q fun y z t' t'' q=>f x y z t t' t'' q
    | _=>exact q.elim
theorem Z0h {a b:Int} {t u:Tok} (S:St g.c R H s.heap) (m:Sm s0 s) (q:RgOk a b∧∀ z,H z=none→Q (.ref z) (up H z (.range a b))):wpAny (model g.c.prog g.c.w) A (call (.type "range") [.int a t,.int b u]) (TQ g R s0 Q) E s:=by
  refine call_range_2 ?_
  obtain ⟨e,S'⟩:=S.newObj (o:=.range _ _) (Nat.le_refl _) (fun _ _ z=>Heap.get?_push_of_some _ z) (by rw [Heap.size_push];exact Nat.le_succ _) (by intro _ _ z;cases z) (fun D=>⟨q.1,_,_,_,Heap.get?_push_size _ rfl⟩)
  exact ⟨_,_,.ref _,S',m.step _ _,q.2 _ e⟩
theorem Zxy {b:Int} {t:Tok} (S:St g.c R H s.heap) (m:Sm s0 s) (q:(-(2 ^ 62) < b∧b < 2 ^ 62)∧∀ z,H z=none→Q (.ref z) (up H z (.range 0 b))):wpAny (model g.c.prog g.c.w) A (call (.type "range") [.int b t]) (TQ g R s0 Q) E s:=by
  refine call_range_1 ?_
  obtain ⟨e,S'⟩:=S.newObj (o:=.range 0 _) (Nat.le_refl _) (fun _ _ z=>Heap.get?_push_of_some _ z) (by rw [Heap.size_push];exact Nat.le_succ _) (by intro _ _ z;cases z) (fun D=>⟨⟨by decide,by decide,q.1.1,q.1.2⟩,_,_,_,Heap.get?_push_size _ rfl⟩)
  exact ⟨_,_,.ref _,S',m.step _ _,q.2 _ e⟩
set_option tactic.hygienic true in
theorem Zxz {f:Pr} {as:List AV} {vs:List Value} {e₀:Env} {l₀:List Env} {mg mb:Str→Option Value} (C:g.c.Ok mg mb) (ev:Ev g A R e₀ l₀) (hv:VRs as vs) (S:St g.c R H s.heap) (m:Sm s0 s) (q:Zdz g.md f as Q H) :
    wpAny (model g.c.prog g.c.w) A (call (Zjg f) vs) (TQ g R s0 Q) E s:=by
  cases f with
  | len=>exact Zdq (m:=fun vs=>wpAny _ A (call (.builtin "len") vs) (TQ g R s0 Q) E s) hv q fun a v h q=>Z0k C h S m q
  | list =>
    refine Zdq (m:=fun vs=>wpAny _ A (call (.type "list") vs) (TQ g R s0 Q) E s) hv q fun a v h q=>?_
    cases h with
    | ref p=>exact Zvs C ev S m q
    | _=>exact q.elim
  | range =>
    cases hv with
    | nil=>exact q.elim
    | cons h1 hr=>cases hr with
      | nil=>cases h1 with
        | int b t=>exact Zxy S m q
        | _=>exact q.elim
      | cons h2 hr =>
        have q:onV1 (_ :: _) (fun b=>wii _ b fun a b=>RgOk a b∧∀ z,H z=none→Q (.ref z) (up H z (.range a b))):=q
        exact Zdq (m:=fun r=>wpAny _ A (call (.type "range") (_ :: r)) (TQ g R s0 Q) E s) (.cons h2 hr) q fun b v h2 q=>Zdd (m:=fun u v=>wpAny _ A (call (.type "range") [u,v]) (TQ g R s0 Q) E s) h1 h2 q fun _ _ _ _ q=>Z0h S m q
  | sum =>
    refine Zdq (m:=fun vs=>wpAny _ A (call (.builtin "sum") vs) (TQ g R s0 Q) E s) hv q fun a v h q=>?_
    cases h with
    | ref p=>exact Z0f ev S m q
    | _=>exact q.2.elim
  | min =>
    refine Zov (m:=fun vs=>wpAny _ A (call (.builtin "min") vs) (TQ g R s0 Q) E s) hv q fun x y t t' q=>?_
    refine min_two_ints (ev.aok.hand q.1) fun h' tk hk=>?_
    have q:=q.2
    split
    · rename_i z;rw [if_pos z] at q;exact ⟨_,_,.int _ _,S.kept ev hk,m.step _ _,q⟩
    · rename_i z;rw [if_neg z] at q;exact ⟨_,_,.int _ _,S.kept ev hk,m.step _ _,q⟩
  | min3 =>
    refine Zva (m:=fun vs=>wpAny _ A (call (.builtin "min") vs) (TQ g R s0 Q) E s) hv q fun x y z t t' t'' q=>?_
    exact Zqb (ev.aok.hand q.1) fun h' tk t' hk=>⟨_,_,.int _ _,S.kept ev hk,m.step _ _,q.2⟩
  | _=>exact q.elim
theorem Zsl {p:Addr} {v:AV} {u:Value} {xs:List AV} (hv:VR v u) (S:St g.c R H s.heap) (m:Sm s0 s) (e:H p=some (.list xs)) (hz:xs.length≤sizeLine) (q:Q .none (up H p (.list (xs ++ [v])))) :
    wpAny (model g.c.prog g.c.w) A (call (.builtin "list.append") [.ref p,u]) (TQ g R s0 Q) E s:=by
  obtain ⟨vs,n,k1,k2,k3⟩:=Za9 S e
  refine append_at k1 (fun h' hs ho=>?_) (by simp only [List.size_toArray];rw [← k2.length];exact hz)
  refine ⟨.none,_,.none,S.setObj (o':=.list (xs ++ [v])) e (by intro _ _ z;cases z) hs (fun D=>⟨vs ++ [u],n + 1,?_,k2.append (.one hv)⟩),m.heap _,q⟩
  rw [ho];simp
end
end Mine
end
section
open PySem PySem.W PyProof.Rows PySem.Spec PySem.SeqAt PySem.Calls
namespace Mine
theorem dn {c:Prop} [d:Decidable c] {k:c→Bool} (h:(if h:c then k h else false)=true):∃ q,k q=true :=
  match d,h with
  | .isTrue q,h=>⟨q,h⟩
  | .isFalse _,h=>Bool.noConfusion h
theorem and2 {a b:Bool} (h:(a && b)=true):a=true∧b=true:=match a,h with
  | true,h=>⟨rfl,h⟩
  | false,h=>Bool.noConfusion h
noncomputable def Zur (e:PySem.Expr) (k:PySem.BoolOp→List PySem.Expr→Pos→Bool):Bool:=if h:e.ctorIdx=0 then PySem.Expr.BoolOp.elim (motive_1:=fun _=>Bool) e h k else false
theorem Zn3 {m:PySem.Expr→Prop} {e:PySem.Expr} {k:PySem.BoolOp→List PySem.Expr→Pos→Bool} (h:Zur e k=true) (f:∀ o vs p,k o vs p=true→m (.BoolOp o vs p)):m e :=
  (dn h).elim fun q z=>PySem.Expr.BoolOp.elim (motive_1:=fun e=>∀ q,PySem.Expr.BoolOp.elim (motive_1:=fun _=>Bool) e q k=true→m e) e q (fun o vs p _ z=>f o vs p z) q z
noncomputable def Zym (e:PySem.Expr) (k:PySem.Expr→Operator→PySem.Expr→Pos→Bool):Bool:=if h:e.ctorIdx=2 then PySem.Expr.BinOp.elim (motive_1:=fun _=>Bool) e h k else false
theorem Zp2 {m:PySem.Expr→Prop} {e:PySem.Expr} {k:PySem.Expr→Operator→PySem.Expr→Pos→Bool} (h:Zym e k=true) (f:∀ l o r p,k l o r p=true→m (.BinOp l o r p)):m e :=
  (dn h).elim fun q z=>PySem.Expr.BinOp.elim (motive_1:=fun e=>∀ q,PySem.Expr.BinOp.elim (motive_1:=fun _=>Bool) e q k=true→m e) e q (fun l o r p _ z=>f l o r p z) q z
noncomputable def onUn (e:PySem.Expr) (k:PySem.UnaryOp→PySem.Expr→Pos→Bool):Bool:=if h:e.ctorIdx=3 then PySem.Expr.UnaryOp.elim (motive_1:=fun _=>Bool) e h k else false
theorem Zmo {m:PySem.Expr→Prop} {e:PySem.Expr} {k:PySem.UnaryOp→PySem.Expr→Pos→Bool} (h:onUn e k=true) (f:∀ o x p,k o x p=true→m (.UnaryOp o x p)):m e :=
  (dn h).elim fun q z=>PySem.Expr.UnaryOp.elim (motive_1:=fun e=>∀ q,PySem.Expr.UnaryOp.elim (motive_1:=fun _=>Bool) e q k=true→m e) e q (fun o x p _ z=>f o x p z) q z
noncomputable def Zuq (e:PySem.Expr) (k:List (Option PySem.Expr)→List PySem.Expr→Pos→Bool):Bool:=if h:e.ctorIdx=6 then PySem.Expr.Dict.elim (motive_1:=fun _=>Bool) e h k else false
theorem Zdc {m:PySem.Expr→Prop} {e:PySem.Expr} {k:List (Option PySem.Expr)→List PySem.Expr→Pos→Bool} (h:Zuq e k=true) (f:∀ ks vs p,k ks vs p=true→m (.Dict ks vs p)):m e :=
  (dn h).elim fun q z=>PySem.Expr.Dict.elim (motive_1:=fun e=>∀ q,PySem.Expr.Dict.elim (motive_1:=fun _=>Bool) e q k=true→m e) e q (fun ks vs p _ z=>f ks vs p z) q z
noncomputable def onLC (e:PySem.Expr) (k:PySem.Expr→List Comprehension→Scope→Pos→Bool):Bool:=if h:e.ctorIdx=8 then PySem.Expr.ListComp.elim (motive_1:=fun _=>Bool) e h k else false
theorem Zsz {m:PySem.Expr→Prop} {e:PySem.Expr} {k:PySem.Expr→List Comprehension→Scope→Pos→Bool} (h:onLC e k=true) (f:∀ x gs cs p,k x gs cs p=true→m (.ListComp x gs cs p)):m e :=
  (dn h).elim fun q z=>PySem.Expr.ListComp.elim (motive_1:=fun e=>∀ q,PySem.Expr.ListComp.elim (motive_1:=fun _=>Bool) e q k=true→m e) e q (fun x gs cs p _ z=>f x gs cs p z) q z
noncomputable def Zwb (e:PySem.Expr) (k:PySem.Expr→List CmpOp→List PySem.Expr→Pos→Bool):Bool:=if h:e.ctorIdx=15 then PySem.Expr.Compare.elim (motive_1:=fun _=>Bool) e h k else false
theorem Zkb {m:PySem.Expr→Prop} {e:PySem.Expr} {k:PySem.Expr→List CmpOp→List PySem.Expr→Pos→Bool} (h:Zwb e k=true) (f:∀ l os rs p,k l os rs p=true→m (.Compare l os rs p)):m e :=
  (dn h).elim fun q z=>PySem.Expr.Compare.elim (motive_1:=fun e=>∀ q,PySem.Expr.Compare.elim (motive_1:=fun _=>Bool) e q k=true→m e) e q (fun l os rs p _ z=>f l os rs p z) q z
noncomputable def Zkc (e:PySem.Expr) (k:PySem.Expr→List PySem.Expr→List Keyword→Pos→Bool):Bool:=if h:e.ctorIdx=16 then PySem.Expr.Call.elim (motive_1:=fun _=>Bool) e h k else false
theorem Zf2 {m:PySem.Expr→Prop} {e:PySem.Expr} {k:PySem.Expr→List PySem.Expr→List Keyword→Pos→Bool} (h:Zkc e k=true) (f:∀ fe as ks p,k fe as ks p=true→m (.Call fe as ks p)):m e :=
  (dn h).elim fun q z=>PySem.Expr.Call.elim (motive_1:=fun e=>∀ q,PySem.Expr.Call.elim (motive_1:=fun _=>Bool) e q k=true→m e) e q (fun fe as ks p _ z=>f fe as ks p z) q z
noncomputable def Zp1 (e:PySem.Expr) (k:Const→Nat→Pos→Bool):Bool:=if h:e.ctorIdx=19 then PySem.Expr.Constant.elim (motive_1:=fun _=>Bool) e h k else false
theorem Zhq {m:PySem.Expr→Prop} {e:PySem.Expr} {k:Const→Nat→Pos→Bool} (h:Zp1 e k=true) (f:∀ c kd p,k c kd p=true→m (.Constant c kd p)):m e :=
  (dn h).elim fun q z=>PySem.Expr.Constant.elim (motive_1:=fun e=>∀ q,PySem.Expr.Constant.elim (motive_1:=fun _=>Bool) e q k=true→m e) e q (fun c kd p _ z=>f c kd p z) q z
noncomputable def Zin (e:PySem.Expr) (k:PySem.Expr→Str→Pos→Bool):Bool:=if h:e.ctorIdx=20 then PySem.Expr.Attribute.elim (motive_1:=fun _=>Bool) e h k else false
theorem Zer {m:PySem.Expr→Prop} {e:PySem.Expr} {k:PySem.Expr→Str→Pos→Bool} (h:Zin e k=true) (f:∀ v a p,k v a p=true→m (.Attribute v a p)):m e :=
  (dn h).elim fun q z=>PySem.Expr.Attribute.elim (motive_1:=fun e=>∀ q,PySem.Expr.Attribute.elim (motive_1:=fun _=>Bool) e q k=true→m e) e q (fun v a p _ z=>f v a p z) q z
noncomputable def Zsy (e:PySem.Expr) (k:PySem.Expr→PySem.Expr→Pos→Bool):Bool:=if h:e.ctorIdx=21 then PySem.Expr.Subscript.elim (motive_1:=fun _=>Bool) e h k else false
theorem Zka {m:PySem.Expr→Prop} {e:PySem.Expr} {k:PySem.Expr→PySem.Expr→Pos→Bool} (h:Zsy e k=true) (f:∀ v i p,k v i p=true→m (.Subscript v i p)):m e :=
  (dn h).elim fun q z=>PySem.Expr.Subscript.elim (motive_1:=fun e=>∀ q,PySem.Expr.Subscript.elim (motive_1:=fun _=>Bool) e q k=true→m e) e q (fun v i p _ z=>f v i p z) q z
noncomputable def Zim (e:PySem.Expr) (k:Str→Pos→Bool):Bool:=if h:e.ctorIdx=23 then PySem.Expr.Name.elim (motive_1:=fun _=>Bool) e h k else false
theorem Zca {m:PySem.Expr→Prop} {e:PySem.Expr} {k:Str→Pos→Bool} (h:Zim e k=true) (f:∀ n p,k n p=true→m (.Name n p)):m e :=
  (dn h).elim fun q z=>PySem.Expr.Name.elim (motive_1:=fun e=>∀ q,PySem.Expr.Name.elim (motive_1:=fun _=>Bool) e q k=true→m e) e q (fun n p _ z=>f n p z) q z
noncomputable def Zun (e:PySem.Expr) (k:List PySem.Expr→Pos→Bool):Bool:=if h:e.ctorIdx=24 then PySem.Expr.List.elim (motive_1:=fun _=>Bool) e h k else false
theorem Zn0 {m:PySem.Expr→Prop} {e:PySem.Expr} {k:List PySem.Expr→Pos→Bool} (h:Zun e k=true) (f:∀ es p,k es p=true→m (.List es p)):m e :=
  (dn h).elim fun q z=>PySem.Expr.List.elim (motive_1:=fun e=>∀ q,PySem.Expr.List.elim (motive_1:=fun _=>Bool) e q k=true→m e) e q (fun es p _ z=>f es p z) q z
noncomputable def Zsx (e:PySem.Expr) (k:List PySem.Expr→Nat→Pos→Bool):Bool:=if h:e.ctorIdx=25 then PySem.Expr.Tuple.elim (motive_1:=fun _=>Bool) e h k else false
theorem Zhp {m:PySem.Expr→Prop} {e:PySem.Expr} {k:List PySem.Expr→Nat→Pos→Bool} (h:Zsx e k=true) (f:∀ es kd p,k es kd p=true→m (.Tuple es kd p)):m e :=
  (dn h).elim fun q z=>PySem.Expr.Tuple.elim (motive_1:=fun e=>∀ q,PySem.Expr.Tuple.elim (motive_1:=fun _=>Bool) e q k=true→m e) e q (fun es kd p _ z=>f es kd p z) q z
noncomputable def Zpw (e:PySem.Expr) (k:Option PySem.Expr→Option PySem.Expr→Option PySem.Expr→Pos→Bool):Bool:=if h:e.ctorIdx=26 then PySem.Expr.Slice.elim (motive_1:=fun _=>Bool) e h k else false
theorem Zlq {m:PySem.Expr→Prop} {e:PySem.Expr} {k:Option PySem.Expr→Option PySem.Expr→Option PySem.Expr→Pos→Bool} (h:Zpw e k=true) (f:∀ l u t p,k l u t p=true→m (.Slice l u t p)):m e :=
  (dn h).elim fun q z=>PySem.Expr.Slice.elim (motive_1:=fun e=>∀ q,PySem.Expr.Slice.elim (motive_1:=fun _=>Bool) e q k=true→m e) e q (fun l u t p _ z=>f l u t p z) q z
section
variable {α:Type}
noncomputable def onC (l:List α) (k:α→List α→Bool):Bool:=match l with
  | []=>false
  | x :: r=>k x r
theorem Zdk {m:List α→Prop} {l:List α} {k:α→List α→Bool} (h:onC l k=true) (f:∀ x r,k x r=true→m (x :: r)):m l:=match l,h with
  | [],h=>Bool.noConfusion h
  | x :: r,h=>f x r h
theorem Zb6 {m:List α→Prop} {l:List α} (h:l.isEmpty=true) (f:m []):m l:=match l,h with
  | [],_=>f
  | _ :: _,h=>Bool.noConfusion h
noncomputable def on1 (l:List α) (k:α→Bool):Bool:=onC l fun x r=>r.isEmpty && k x
theorem Ze0 {m:List α→Prop} {l:List α} {k:α→Bool} (h:on1 l k=true) (f:∀ x,k x=true→m [x]):m l :=
  Zdk h fun x _ h=>Zb6 (m:=fun r=>m (x :: r)) (and2 h).1 (f x (and2 h).2)
noncomputable def on2 (l:List α) (k:α→α→Bool):Bool:=onC l fun x r=>on1 r (k x)
theorem Zls {m:List α→Prop} {l:List α} {k:α→α→Bool} (h:on2 l k=true) (f:∀ x y,k x y=true→m [x,y]):m l :=
  Zdk h fun x _ h=>Ze0 (m:=fun r=>m (x :: r)) h (f x)
noncomputable def Zil (o:Option α) (k:α→Bool):Bool:=match o with
  | none=>false
  | some x=>k x
theorem Zeq {m:Option α→Prop} {o:Option α} {k:α→Bool} (h:Zil o k=true) (f:∀ x,k x=true→m (some x)):m o:=match o,h with
  | none,h=>Bool.noConfusion h
  | some x,h=>f x h
end
noncomputable def Zir (sc:Scope) (id:Str):Bool:=match sc.names.lookup id with
  | some .local=>true
  | some .cell=>true
  | some .free=>true
  | _=>false
noncomputable def Zqq (sc:Scope) (id:Str):Bool:=sc.names.lookup id == some .globalImplicit
noncomputable def Zdv (id:Str):Bool:=!(id == ("__debug__":Str)) && !(id == ("__classdict__":Str))
noncomputable def Zfu (e:PySem.Expr):Bool:=e.ctorIdx != 16 || Zkc e fun f _ _ _=>Zin f fun _ _ _=>true
noncomputable def Zhr (e:PySem.Expr):Bool:=e.ctorIdx != 26
noncomputable def Zc1 (e:PySem.Expr):Bool:=e.ctorIdx != 22
noncomputable def Zb2 (sc:Scope) (n:String) (e:PySem.Expr):Bool:=Zim e fun id _=>id == Str.ofString n && Zqq sc id && Zdv id
noncomputable def Zio (e:PySem.Expr):Bool:=e.ctorIdx != 7
noncomputable def isLC (e:PySem.Expr):Bool:=e.ctorIdx == 8
noncomputable def Zy8 (v:AV) (cc:Const):Bool:=match v with
  | .none=>cc == .none
  | .bool a=>cc == .bool a
  | .int a=>cc == .int a
  | .str a=>cc == .str a && PyData.strOk a
  | .ref _=>false
noncomputable def Zqr (e:X):Bool:=e.ctorIdx == (X.comp (.var 0) 0 false (.var 0) none).ctorIdx
noncomputable def Zdt (nm:List Str) (ts:List Str):List Str:=nm.map fun x=>if ts.contains x then ⟨#[]⟩ else x
noncomputable def Zc7:List PySem.Expr→List Str→Bool
  | [],ts=>ts.isEmpty
  | e :: r,ts=>onC ts fun t q=>(Zim e fun id _=>id == t) && Zc7 r q
noncomputable def Zyv (e:PySem.Expr):Str:=if h:e.ctorIdx=23 then PySem.Expr.Name.elim (motive_1:=fun _=>Str) e h (fun n _=>n) else ⟨#[]⟩
inductive TgN:PySem.Expr→Bool→List Str→Prop
  | name {t p}:TgN (.Name t p) false [t]
  | tup {es k p ts}:Zc7 es ts=true→TgN (.Tuple es k p) true ts
noncomputable def Zcq (sc csc:Scope) (nm ts:List Str):Bool :=
  csc.kind == .function && ts.all (fun t=>csc.names.lookup t == some .local && t.length != 0 && Zdv t) && decide ts.Nodup && !nm.contains (Str.ofString ".0") &&
  csc.names.all (fun p=>p.2 != .cell && (p.2 != .local || (csc.names.lookup p.1 == some .local && (ts.contains p.1 || p.1 == Str.ofString ".0"))) && (p.2 != .free || (sc.names.lookup p.1 == some .cell && nm.contains p.1 && csc.names.lookup p.1 == some .free)) && p.1.length != 0)
abbrev EB:=PySem.Expr→Bool
section
variable {m:PySem.Expr→Prop} {e:PySem.Expr} {sc:Scope} {nm:List Str} {a b c d i:EB} {xs:List PySem.Expr→Bool}
theorem Zmq {n:String} (h:Zb2 sc n e=true) (f:∀ id p,Zb2 sc n (.Name id p)=true→m (.Name id p)):m e:=Zca h f
noncomputable def mLit (v:AV) (e:PySem.Expr):Bool:=Zp1 e fun cc _ _=>Zy8 v cc
noncomputable def mVar (sc:Scope) (nm:List Str) (i:Nat) (e:PySem.Expr):Bool:=Zim e fun id _=>nm[i]? == some id && Zir sc id && Zdv id
theorem Zs8 {i:Nat} (h:mVar sc nm i e=true) (f:∀ id p,nm[i]? = some id→Zir sc id=true→Zdv id=true→m (.Name id p)):m e :=
  Zca h fun id p h=>have h2:=and2 h;have h1:=and2 h2.1;f id p (eq_of_beq h1.1) h1.2 h2.2
noncomputable def mBin (op:Operator) (a b:EB) (e:PySem.Expr):Bool:=Zym e fun l op' r _=>op' == op && a l && b r
theorem Zte {op:Operator} (h:mBin op a b e=true) (f:∀ l r p,a l=true→b r=true→m (.BinOp l op r p)):m e :=
  Zp2 h fun l _ r p h=>have h2:=and2 h;have h1:=and2 h2.1;eq_of_beq h1.1 ▸ f l r p h1.2 h2.2
noncomputable def mNeg (a:EB) (e:PySem.Expr):Bool:=onUn e fun o x _=>o == .USub && a x
theorem Ztb (h:mNeg a e=true) (f:∀ x p,a x=true→m (.UnaryOp .USub x p)):m e :=
  Zmo h fun _ x p h=>eq_of_beq (and2 h).1 ▸ f x p (and2 h).2
noncomputable def mNot (a:EB) (e:PySem.Expr):Bool:=onUn e fun o x _=>o == .Not && a x
theorem Zta (h:mNot a e=true) (f:∀ x p,a x=true→m (.UnaryOp .Not x p)):m e :=
  Zmo h fun _ x p h=>eq_of_beq (and2 h).1 ▸ f x p (and2 h).2
noncomputable def mAo (isAnd:Bool) (xs:List PySem.Expr→Bool) (e:PySem.Expr):Bool:=Zur e fun op vs _=>(op == (if isAnd then PySem.BoolOp.And else PySem.BoolOp.Or)) && xs vs
theorem Zwj {isAnd:Bool} (h:mAo isAnd xs e=true) (f:∀ vs p,xs vs=true→m (.BoolOp (if isAnd then PySem.BoolOp.And else PySem.BoolOp.Or) vs p)):m e :=
  Zn3 h fun _ vs p h=>eq_of_beq (and2 h).1 ▸ f vs p (and2 h).2
noncomputable def mCmp (op:CmpOp) (a b:EB) (e:PySem.Expr):Bool:=Zwb e fun l os rs _=>on1 os fun op'=>on1 rs fun r=>op' == op && !behindInMarks op' r && a l && b r
theorem not1 {b:Bool} (h:(!b)=true):b=false:=match b,h with
  | false,_=>rfl
  | true,h=>Bool.noConfusion h
theorem Ztd {op:CmpOp} (h:mCmp op a b e=true) (f:∀ l r p,behindInMarks op r=false→a l=true→b r=true→m (.Compare l [op] [r] p)):m e :=
  Zkb h fun l os rs p h=>Ze0 (m:=fun os=>m (.Compare l os rs p)) h fun o h=>Ze0 (m:=fun rs=>m (.Compare l [o] rs p)) h fun r h =>
    have h2:=and2 h;have h1:=and2 h2.1;have h0:=and2 h1.1;eq_of_beq h0.1 ▸ f l r p (eq_of_beq h0.1 ▸ not1 h0.2) h1.2 h2.2
noncomputable def Zy3 (op1 op2:CmpOp) (a b d:EB) (e:PySem.Expr):Bool:=Zwb e fun l os rs _=>on2 os fun o₁ o₂=>on2 rs fun r₁ r₂=>(o₁ == op1 && o₂ == op2) && (!lastMarks [op1,op2] [r₁,r₂] && a l && b r₁ && d r₂)
theorem Zqf {op1 op2:CmpOp} (h:Zy3 op1 op2 a b d e=true) (f:∀ l r₁ r₂ p,lastMarks [op1,op2] [r₁,r₂]=false→a l=true→b r₁ = true→d r₂ = true→m (.Compare l [op1,op2] [r₁,r₂] p)):m e :=
  Zkb h fun l os rs p h=>Zls (m:=fun os=>m (.Compare l os rs p)) h fun o₁ o₂ h=>Zls (m:=fun rs=>m (.Compare l [o₁,o₂] rs p)) h fun r₁ r₂ h =>
    have h4:=and2 h;have h3:=and2 h4.2;have h2:=and2 h3.1;have h1:=and2 h2.1;eq_of_beq (and2 h4.1).1 ▸ eq_of_beq (and2 h4.1).2 ▸ f l r₁ r₂ p (not1 h1.1) h1.2 h2.2 h3.2
noncomputable def mSub (a i:EB) (e:PySem.Expr):Bool:=Zsy e fun v sl _=>Zhr sl && a v && i sl
theorem Zmu (h:mSub a i e=true) (f:∀ v sl p,Zhr sl=true→a v=true→i sl=true→m (.Subscript v sl p)):m e :=
  Zka h fun v sl p h=>have h2:=and2 h;have h1:=and2 h2.1;f v sl p h1.1 h1.2 h2.2
noncomputable def Zu0 (a:EB) (lo hi st:Option PySem.Expr→Bool) (e:PySem.Expr):Bool:=Zsy e fun v sl _=>Zpw sl fun l u t _=>a v && lo l && hi u && st t
theorem Zoa {lo hi st:Option PySem.Expr→Bool} (h:Zu0 a lo hi st e=true) (f:∀ v l u t p q,a v=true→lo l=true→hi u=true→st t=true→m (.Subscript v (.Slice l u t p) q)):m e :=
  Zka h fun v sl q h=>Zlq (m:=fun sl=>m (.Subscript v sl q)) h fun l u t p h=>have h3:=and2 h;have h2:=and2 h3.1;have h1:=and2 h2.1;f v l u t p q h1.1 h1.2 h2.2 h3.2
noncomputable def Zy4 (a:EB) (n:String) (e:PySem.Expr):Bool:=Zin e fun v at' _=>at' == Str.ofString n && Zfu v && a v
theorem Zqh {n:String} (h:Zy4 a n e=true) (f:∀ v p,Zfu v=true→a v=true→m (.Attribute v (Str.ofString n) p)):m e :=
  Zer h fun v _ p h=>have h2:=and2 h;have h1:=and2 h2.1;eq_of_beq h1.1 ▸ f v p h1.2 h2.2
noncomputable def Zqg (sc:Scope) (ok:Bool) (f:String) (xs:List PySem.Expr→Bool) (e:PySem.Expr):Bool:=Zkc e fun fe args ks _=>ks.isEmpty && Zb2 sc f fe && ok && xs args
theorem Zfn {ok:Bool} {n:String} (h:Zqg sc ok n xs e=true) (f:∀ fe args p,Zb2 sc n fe=true→ok=true→xs args=true→m (.Call fe args [] p)):m e :=
  Zf2 h fun fe args _ p h=>have h3:=and2 h;have h2:=and2 h3.1;have h1:=and2 h2.1;Zb6 (m:=fun ks=>m (.Call fe args ks p)) h1.1 (f fe args p h1.2 h2.2 h3.2)
noncomputable def Zwh (n:String) (a:EB) (xs:List PySem.Expr→Bool) (e:PySem.Expr):Bool:=Zkc e fun fe args ks pos=>Zin fe fun o name apos=>(ks.isEmpty && name == Str.ofString n) && ((apos.endLine == pos.line) && Zfu o && decide (args.length < 29) && a o && xs args)
theorem Zkf {n:String} (h:Zwh n a xs e=true) (f:∀ o apos args pos,(apos.endLine == pos.line)=true→Zfu o=true→args.length < 29→a o=true→xs args=true→m (.Call (.Attribute o (Str.ofString n) apos) args [] pos)):m e :=
  Zf2 h fun fe args ks pos h=>Zer (m:=fun fe=>m (.Call fe args ks pos)) h fun o _ apos h =>
    have h5:=and2 h;have h0:=and2 h5.1;have h4:=and2 h5.2;have h3:=and2 h4.1;have h2:=and2 h3.1;have h1:=and2 h2.1
    eq_of_beq h0.2 ▸ Zb6 (m:=fun ks=>m (.Call (.Attribute o _ apos) args ks pos)) h0.1 (eq_of_beq h0.2 ▸ f o apos args pos h1.1 h1.2 (of_decide_eq_true h2.2) h3.2 h4.2)
noncomputable def mIsi (P:Pg) (sc:Scope) (a:EB) (ty:String) (e:PySem.Expr):Bool:=Zkc e fun fe args ks _=>on2 args fun x t=>(ks.isEmpty && Zc1 x) && (Zb2 sc "isinstance" fe && P.prims.contains "isinstance" && (P.prims.contains ty && ["int","bool","str","list"].contains ty) && Zb2 sc ty t && a x)
theorem Ztc {P:Pg} {ty:String} (h:mIsi P sc a ty e=true) (f:∀ fe x t p,Zc1 x=true→Zb2 sc "isinstance" fe=true→P.prims.contains "isinstance" = true→(P.prims.contains ty && ["int","bool","str","list"].contains ty)=true→Zb2 sc ty t=true→a x=true→m (.Call fe [x,t] [] p)):m e :=
  Zf2 h fun fe args ks p h=>Zls (m:=fun args=>m (.Call fe args ks p)) h fun x t h =>
    have h5:=and2 h;have h0:=and2 h5.1;have h4:=and2 h5.2;have h3:=and2 h4.1;have h2:=and2 h3.1;have h1:=and2 h2.1
    Zb6 (m:=fun ks=>m (.Call fe [x,t] ks p)) h0.1 (f fe x t p h0.2 h1.1 h1.2 h2.2 h3.2 h4.2)
noncomputable def Zy1 (xs:List PySem.Expr→Bool) (e:PySem.Expr):Bool:=Zun e fun es _=>xs es && decide (es.length < 1000)
theorem Zqe (h:Zy1 xs e=true) (f:∀ es p,xs es=true→es.length < 1000→m (.List es p)):m e :=
  Zn0 h fun es p h=>f es p (and2 h).1 (of_decide_eq_true (and2 h).2)
noncomputable def mTup (xs:List PySem.Expr→Bool) (e:PySem.Expr):Bool:=Zsx e fun es _ _=>xs es && decide (es.length < 1000)
theorem Zs9 (h:mTup xs e=true) (f:∀ es k p,xs es=true→es.length < 1000→m (.Tuple es k p)):m e :=
  Zhp h fun es k p h=>f es k p (and2 h).1 (of_decide_eq_true (and2 h).2)
noncomputable def Zwi (ks vs:List X) (mk:List (Option PySem.Expr)→Bool) (mv:List PySem.Expr→Bool) (e:PySem.Expr):Bool:=Zuq e fun ks' vs' _=>match ks,vs with
  | [],[]=>ks'.isEmpty && vs'.isEmpty
  | [_],[_]=>mk ks' && mv vs'
  | _,_=>false
theorem Zoc {mk:List (Option PySem.Expr)→Bool} {mv:List PySem.Expr→Bool} (h:Zwi [] [] mk mv e=true) (f:∀ p,m (.Dict [] [] p)):m e :=
  Zdc h fun ks vs p h=>Zb6 (m:=fun ks=>m (.Dict ks vs p)) (and2 h).1 (Zb6 (m:=fun vs=>m (.Dict [] vs p)) (and2 h).2 (f p))
theorem Zob {k v:X} {mk:List (Option PySem.Expr)→Bool} {mv:List PySem.Expr→Bool} (h:Zwi [k] [v] mk mv e=true) (f:∀ ks vs p,mk ks=true→mv vs=true→m (.Dict ks vs p)):m e :=
  Zdc h fun ks vs p h=>f ks vs p (and2 h).1 (and2 h).2
noncomputable def goOk (k:Nat) (sc csc:Scope) (nm:List Str) (it:EB) (x:Scope→List Str→EB) (c:Scope→List Str→List PySem.Expr→Bool) (elt iter:PySem.Expr) (ifs:List PySem.Expr) (ia:Int) (ts:List Str):Bool :=
  (ia == 0 && k == ts.length) && (Zio iter && it iter && Zcq sc csc nm ts && x csc (Zdt nm ts ++ ts) elt && c csc (Zdt nm ts ++ ts) ifs)
noncomputable def Zy2 (top tup:Bool) (k:Nat) (sc:Scope) (nm:List Str) (it:EB) (x:Scope→List Str→EB) (c:Scope→List Str→List PySem.Expr→Bool) (e:PySem.Expr):Bool:=top && (onLC e fun elt gs csc _=>on1 gs fun g =>
  match tup with
  | false=>Zim g.target fun t _=>goOk k sc csc nm it x c elt g.iter g.ifs g.is_async [t]
  | true=>Zsx g.target fun es _ _=>Zc7 es (es.map Zyv) && goOk k sc csc nm it x c elt g.iter g.ifs g.is_async (es.map Zyv))
structure Zu7 (k:Nat) (sc csc:Scope) (nm ts:List Str) (it:EB) (x:Scope→List Str→EB) (c:Scope→List Str→List PySem.Expr→Bool) (elt iter:PySem.Expr) (ifs:List PySem.Expr):Prop where
  len:k=ts.length
  set:Zio iter=true
  it:it iter=true
  sc:Zcq sc csc nm ts=true
  x:x csc (Zdt nm ts ++ ts) elt=true
  c:c csc (Zdt nm ts ++ ts) ifs=true
theorem Zm4 {tup:Bool} {k:Nat} {it:EB} {x:Scope→List Str→EB} {c:Scope→List Str→List PySem.Expr→Bool} {csc:Scope} {elt tg iter:PySem.Expr} {ifs:List PySem.Expr} {ia:Int} {p:Pos} {ts:List Str}
    (f:∀ elt tg iter ifs csc ts p,TgN tg tup ts→Zu7 k sc csc nm ts it x c elt iter ifs→m (.ListComp elt [⟨tg,iter,ifs,0⟩] csc p)) (ht:TgN tg tup ts) (h:goOk k sc csc nm it x c elt iter ifs ia ts=true):m (.ListComp elt [⟨tg,iter,ifs,ia⟩] csc p) :=
  have h5:=and2 h;have h0:=and2 h5.1;have h4:=and2 h5.2;have h3:=and2 h4.1;have h2:=and2 h3.1;have h1:=and2 h2.1
  eq_of_beq h0.1 ▸ f elt tg iter ifs csc ts p ht ⟨eq_of_beq h0.2,h1.1,h1.2,h2.2,h3.2,h4.2⟩
theorem Zkg {top tup:Bool} {k:Nat} {it:EB} {x:Scope→List Str→EB} {c:Scope→List Str→List PySem.Expr→Bool} (h:Zy2 top tup k sc nm it x c e=true)
    (f:∀ elt tg iter ifs csc ts p,TgN tg tup ts→Zu7 k sc csc nm ts it x c elt iter ifs→m (.ListComp elt [⟨tg,iter,ifs,0⟩] csc p)):m e:=by
  refine Zsz (and2 h).2 fun elt gs csc p h=>Ze0 (m:=fun gs=>m (.ListComp elt gs csc p)) h fun G h=>?_
  cases G with
  | mk tg iter ifs ia =>
  cases tup with
  | false=>exact Zca (m:=fun tg=>m (.ListComp elt [⟨tg,iter,ifs,ia⟩] csc p)) h fun _ _ h=>Zm4 f .name h
  | true=>exact Zhp (m:=fun tg=>m (.ListComp elt [⟨tg,iter,ifs,ia⟩] csc p)) h fun _ _ _ h=>Zm4 f (.tup (and2 h).1) (and2 h).2
end
mutual
noncomputable def mtX (P:Pg) (top:Bool) (sc:Scope) (nm:List Str):X→PySem.Expr→Bool
  | .lit v,e=>mLit v e
  | .var i,e=>mVar sc nm i e
  | .glob n,e=>Zb2 sc n e
  | .bin op a b,e=>mBin op (mtX P top sc nm a) (mtX P top sc nm b) e
  | .neg a,e=>mNeg (mtX P top sc nm a) e
  | .not a,e=>mNot (mtX P top sc nm a) e
  | .ao isAnd xs,e=>mAo isAnd (mtXs P top sc nm xs) e
  | .cmp op a b,e=>mCmp op (mtX P top sc nm a) (mtX P top sc nm b) e
  | .cmp2 op1 op2 a b d,e=>Zy3 op1 op2 (mtX P top sc nm a) (mtX P top sc nm b) (mtX P top sc nm d) e
  | .sub a i,e=>mSub (mtX P top sc nm a) (mtX P top sc nm i) e
  | .slice a lo hi st,e=>Zu0 (mtX P top sc nm a) (mtO P top sc nm lo) (mtO P top sc nm hi) (mtO P top sc nm st) e
  | .attr a n,e=>Zy4 (mtX P top sc nm a) n e
  | .call f xs,e=>Zqg sc (P.gfns.contains f) f (mtXs P top sc nm xs) e
  | .new cl xs,e=>Zqg sc (P.classes.contains cl) cl (mtXs P top sc nm xs) e
  | .meth a m xs,e=>Zwh m (mtX P top sc nm a) (mtXs P top sc nm xs) e
  | .bm a m xs,e=>Zwh m.str (mtX P top sc nm a) (mtXs P top sc nm xs) e
  | .prim f xs,e=>Zqg sc (P.prims.contains f.str) f.str (mtXs P top sc nm xs) e
  | .isinst a ty,e=>mIsi P sc (mtX P top sc nm a) ty e
  | .list xs,e=>Zy1 (mtXs P top sc nm xs) e
  | .tuple xs,e=>mTup (mtXs P top sc nm xs) e
  | .dict ks vs,e=>Zwi ks vs (mtOs P top sc nm ks) (mtXs P top sc nm vs) e
  | .comp x k tup it c,e=>Zy2 top tup k sc nm (mtX P top sc nm it) (fun csc nm'=>mtX P false csc nm' x) (fun csc nm'=>mtC P csc nm' c) e
noncomputable def mtXs (P:Pg) (top:Bool) (sc:Scope) (nm:List Str):List X→List PySem.Expr→Bool
  | [],es=>es.isEmpty
  | x :: r,es=>onC es fun e q=>mtX P top sc nm x e && Zc1 e && mtXs P top sc nm r q
noncomputable def mtO (P:Pg) (top:Bool) (sc:Scope) (nm:List Str):Option X→Option PySem.Expr→Bool
  | none,e=>e.isNone
  | some x,e=>Zil e fun e=>mtX P top sc nm x e
noncomputable def mtOs (P:Pg) (top:Bool) (sc:Scope) (nm:List Str):List X→List (Option PySem.Expr)→Bool
  | [],es=>es.isEmpty
  | x :: r,es=>onC es fun o q=>(Zil o fun e=>mtX P top sc nm x e) && mtOs P top sc nm r q
noncomputable def mtC (P:Pg) (sc:Scope) (nm:List Str):Option X→List PySem.Expr→Bool
  | none,es=>es.isEmpty
  | some x,es=>on1 es fun e=>mtX P false sc nm x e
end
noncomputable def Zd4 (sc:Scope) (id:Str):Bool:=match sc.names.lookup id with
  | some .local=>true
  | some .cell=>true
  | _=>false
theorem Zkh {sc:Scope} {id:Str} (h:Zir sc id=true):sc.names.lookup id=some .local∨sc.names.lookup id=some .cell∨sc.names.lookup id=some .free:=by
  unfold Zir at h
  revert h
  cases sc.names.lookup id with
  | none=>exact fun h=>Bool.noConfusion h
  | some k=>cases k <;> first | exact fun _=>.inl rfl | exact fun _=>.inr (.inl rfl) | exact fun _=>.inr (.inr rfl) | exact fun h=>Bool.noConfusion h
theorem Ziq {sc:Scope} {id:Str} (h:Zd4 sc id=true):sc.names.lookup id=some .local∨sc.names.lookup id=some .cell:=by
  unfold Zd4 at h
  revert h
  cases sc.names.lookup id with
  | none=>exact fun h=>Bool.noConfusion h
  | some k=>cases k <;> first | exact fun _=>.inl rfl | exact fun _=>.inr rfl | exact fun h=>Bool.noConfusion h
inductive OVW:Option AV→Option Value→Prop
  | none {x}:OVW Option.none x
  | some {a v}:VR a v→OVW (Option.some a) (Option.some v)
structure Frm (R:RR) (env:Env) (sc:Scope) (nm:List Str) (V:VV):Prop where
  kind:env.scope.kind = .function
  glob:env.globals=mainGlobals
  blt:env.builtins=builtinsNs
  sco:∀ id,Zqq sc id=true→env.kindOf id=some .globalImplicit
  kok:∀ id,Zir sc id=true→env.kindOf id=some .local∨env.kindOf id=some .cell∨env.kindOf id=some .free
  lok:∀ id,Zd4 sc id=true→env.kindOf id=some .local∨env.kindOf id=some .cell
  lco:∀ id,sc.names.lookup id=some .local→env.kindOf id=some .local
  cco:∀ id,sc.names.lookup id=some .cell→env.kindOf id=some .cell
  len:V.length=nm.length
  inj:∀ n n' a,env.cells.lookup n=some a→env.cells.lookup n'=some a→n=n'
  ns:∃ m,R env.locals=some (.ns m)∧∀ (i:Nat) n,nm[i]? = some n→env.kindOf n=some .local→∃ v,V[i]? = some v∧OVW v (m n)
  cell:∀ (i:Nat) n,nm[i]? = some n→(env.kindOf n=some .cell∨env.kindOf n=some .free)→∃ a x v,env.cells.lookup n=some a∧R a=some (.cell x)∧V[i]? = some v∧OVW v x
noncomputable def veM:List Value:=[.type "ValueError",.type "Exception",.type "BaseException",.type "object"]
noncomputable def typeNames:List String:=["int","bool","str","list"]
structure PgOk (c:Cx):Prop where
  fn:∀ f,c.P.gfns.contains f=true→nsIn c.K mainGlobals (Str.ofString f)=some (some (.ref (c.fa f)))∧keepIn c.K (.ref (c.fa f))=true
  cls:∀ cl,c.P.classes.contains cl=true→nsIn c.K mainGlobals (Str.ofString cl)=some (some (.ref (c.ca cl)))∧keepIn c.K (.ref (c.ca cl))=true∧makesIn c.K (c.ca cl)=true ∧
    findIn c.K (.ref (c.ca cl)) "__init__" = some (some (.ref (c.fa (cl ++ ".__init__"))))∧isFn c.K (.ref (c.fa (cl ++ ".__init__")))=true
  meth:∀ cl m,c.P.meths.contains (cl,m)=true→plainGet c.K (c.ca cl) (Str.ofString m)=true∧findIn c.K (.ref (c.ca cl)) (Str.ofString m)=some (some (.ref (c.fa (cl ++ "." ++ m))))∧isFn c.K (.ref (c.fa (cl ++ "." ++ m)))=true ∧
    keepIn c.K (.ref (c.fa (cl ++ "." ++ m)))=true
  attr:∀ cl n,c.P.attrs.contains (cl,n)=true→plainGet c.K (c.ca cl) (Str.ofString n)=true∧hasDictIn c.K (c.ca cl)=true∧findIn c.K (.ref (c.ca cl)) (Str.ofString n)=some none ∧
    findIn c.K (.ref (c.ca cl)) "__setattr__" = some (some (.builtin "object.__setattr__"))∧plainOver c.K (c.ca cl)=true∧takerIn c.K (c.ca cl) (Str.ofString n)=some none
  prim:∀ f,c.P.prims.contains f=true→nsIn c.K mainGlobals (Str.ofString f)=some none∧(Str.ofString f == Str.ofString "__name__")=false∧bootBuiltins (Str.ofString f)=some (Zgv f)
  excR:∀ cl,(c.P.excs.lookup cl).isSome=true→nsIn c.K mainGlobals (Str.ofString cl)=some (some (.ref (c.ca cl)))∧excIn c.K (c.ca cl) veM "ValueError.__new__" = true∧instIn c.K (.ref (c.ca cl)) (.type "tuple")=some false∧subIn c.K (.ref (c.ca cl)) (.type "BaseException")=some true∧(clsIn c.K (c.ca cl)).isSome=true ∧
    typeIn c.K (.ref (c.ca cl))=some (.type "type")∧instIn c.K (.ref (c.ca cl)) (.type "type")=some true∧typeNames.contains cl=false
  excC:∀ cl d,(c.P.excs.lookup cl).isSome=true→(c.P.excs.lookup d).isSome=true→subIn c.K (.ref (c.ca cl)) (.ref (c.ca d))=some (Ziv c.P cl d)
  const:∀ n v,c.P.consts.lookup n=some v→∃ x,nsIn c.K mainGlobals (Str.ofString n)=some (some x)∧VR v x
end Mine
namespace Mine
noncomputable def Zyi (e:PySem.Stmt) (k:Option PySem.Expr→Pos→Bool):Bool:=if h:e.ctorIdx=3 then PySem.Stmt.Return.elim (motive_2:=fun _=>Bool) e h k else false
theorem Zpx {m:PySem.Stmt→Prop} {e:PySem.Stmt} {k:Option PySem.Expr→Pos→Bool} (h:Zyi e k=true) (f:∀ v p,k v p=true→m (.Return v p)):m e :=
  (dn h).elim fun q z=>PySem.Stmt.Return.elim (motive_2:=fun e=>∀ q,PySem.Stmt.Return.elim (motive_2:=fun _=>Bool) e q k=true→m e) e q (fun v p _ z=>f v p z) q z
noncomputable def Zyn (e:PySem.Stmt) (k:List PySem.Expr→PySem.Expr→Pos→Bool):Bool:=if h:e.ctorIdx=5 then PySem.Stmt.Assign.elim (motive_2:=fun _=>Bool) e h k else false
theorem Zp3 {m:PySem.Stmt→Prop} {e:PySem.Stmt} {k:List PySem.Expr→PySem.Expr→Pos→Bool} (h:Zyn e k=true) (f:∀ ts v p,k ts v p=true→m (.Assign ts v p)):m e :=
  (dn h).elim fun q z=>PySem.Stmt.Assign.elim (motive_2:=fun e=>∀ q,PySem.Stmt.Assign.elim (motive_2:=fun _=>Bool) e q k=true→m e) e q (fun ts v p _ z=>f ts v p z) q z
noncomputable def Zyl (e:PySem.Stmt) (k:PySem.Expr→PySem.Expr→List Stmt→List Stmt→Pos→Bool):Bool:=if h:e.ctorIdx=9 then PySem.Stmt.For.elim (motive_2:=fun _=>Bool) e h k else false
theorem Zp0 {m:PySem.Stmt→Prop} {e:PySem.Stmt} {k:PySem.Expr→PySem.Expr→List Stmt→List Stmt→Pos→Bool} (h:Zyl e k=true) (f:∀ t i b o p,k t i b o p=true→m (.For t i b o p)):m e :=
  (dn h).elim fun q z=>PySem.Stmt.For.elim (motive_2:=fun e=>∀ q,PySem.Stmt.For.elim (motive_2:=fun _=>Bool) e q k=true→m e) e q (fun t i b o p _ z=>f t i b o p z) q z
noncomputable def Zpt (e:PySem.Stmt) (k:PySem.Expr→List Stmt→List Stmt→Pos→Bool):Bool:=if h:e.ctorIdx=11 then PySem.Stmt.While.elim (motive_2:=fun _=>Bool) e h k else false
theorem Zlo {m:PySem.Stmt→Prop} {e:PySem.Stmt} {k:PySem.Expr→List Stmt→List Stmt→Pos→Bool} (h:Zpt e k=true) (f:∀ t b o p,k t b o p=true→m (.While t b o p)):m e :=
  (dn h).elim fun q z=>PySem.Stmt.While.elim (motive_2:=fun e=>∀ q,PySem.Stmt.While.elim (motive_2:=fun _=>Bool) e q k=true→m e) e q (fun t b o p _ z=>f t b o p z) q z
noncomputable def Zyk (e:PySem.Stmt) (k:PySem.Expr→List Stmt→List Stmt→Pos→Bool):Bool:=if h:e.ctorIdx=12 then PySem.Stmt.If.elim (motive_2:=fun _=>Bool) e h k else false
theorem Zpz {m:PySem.Stmt→Prop} {e:PySem.Stmt} {k:PySem.Expr→List Stmt→List Stmt→Pos→Bool} (h:Zyk e k=true) (f:∀ t b o p,k t b o p=true→m (.If t b o p)):m e :=
  (dn h).elim fun q z=>PySem.Stmt.If.elim (motive_2:=fun e=>∀ q,PySem.Stmt.If.elim (motive_2:=fun _=>Bool) e q k=true→m e) e q (fun t b o p _ z=>f t b o p z) q z
noncomputable def onRaise (e:PySem.Stmt) (k:Option PySem.Expr→Option PySem.Expr→Pos→Bool):Bool:=if h:e.ctorIdx=16 then PySem.Stmt.Raise.elim (motive_2:=fun _=>Bool) e h k else false
theorem Zlr {m:PySem.Stmt→Prop} {e:PySem.Stmt} {k:Option PySem.Expr→Option PySem.Expr→Pos→Bool} (h:onRaise e k=true) (f:∀ x c p,k x c p=true→m (.Raise x c p)):m e :=
  (dn h).elim fun q z=>PySem.Stmt.Raise.elim (motive_2:=fun e=>∀ q,PySem.Stmt.Raise.elim (motive_2:=fun _=>Bool) e q k=true→m e) e q (fun x c p _ z=>f x c p z) q z
noncomputable def Zyh (e:PySem.Stmt) (k:List Stmt→List ExceptHandler→List Stmt→List Stmt→Pos→Bool):Bool:=if h:e.ctorIdx=17 then PySem.Stmt.Try.elim (motive_2:=fun _=>Bool) e h k else false
theorem Zpu {m:PySem.Stmt→Prop} {e:PySem.Stmt} {k:List Stmt→List ExceptHandler→List Stmt→List Stmt→Pos→Bool} (h:Zyh e k=true) (f:∀ b hs o fi p,k b hs o fi p=true→m (.Try b hs o fi p)):m e :=
  (dn h).elim fun q z=>PySem.Stmt.Try.elim (motive_2:=fun e=>∀ q,PySem.Stmt.Try.elim (motive_2:=fun _=>Bool) e q k=true→m e) e q (fun b hs o fi p _ z=>f b hs o fi p z) q z
noncomputable def Zup (e:PySem.Stmt) (k:PySem.Expr→Pos→Bool):Bool:=if h:e.ctorIdx=24 then PySem.Stmt.Expr.elim (motive_2:=fun _=>Bool) e h k else false
theorem Zn2 {m:PySem.Stmt→Prop} {e:PySem.Stmt} {k:PySem.Expr→Pos→Bool} (h:Zup e k=true) (f:∀ v p,k v p=true→m (.Expr v p)):m e :=
  (dn h).elim fun q z=>PySem.Stmt.Expr.elim (motive_2:=fun e=>∀ q,PySem.Stmt.Expr.elim (motive_2:=fun _=>Bool) e q k=true→m e) e q (fun v p _ z=>f v p z) q z
noncomputable def Zum (e:PySem.Stmt) (k:Pos→Bool):Bool:=if h:e.ctorIdx=25 then PySem.Stmt.Pass.elim (motive_2:=fun _=>Bool) e h k else false
theorem Znz {m:PySem.Stmt→Prop} {e:PySem.Stmt} {k:Pos→Bool} (h:Zum e k=true) (f:∀ p,k p=true→m (.Pass p)):m e :=
  (dn h).elim fun q z=>PySem.Stmt.Pass.elim (motive_2:=fun e=>∀ q,PySem.Stmt.Pass.elim (motive_2:=fun _=>Bool) e q k=true→m e) e q (fun p _ z=>f p z) q z
noncomputable def Ze1 (e:PySem.Expr):Bool:=e.ctorIdx != 8 && e.ctorIdx != 9 && e.ctorIdx != 10 && e.ctorIdx != 7
noncomputable def Znk (sc:Scope) (nm:List Str) (i:Nat) (e:PySem.Expr):Bool:=Zim e fun id _=>nm[i]? == some id && Zd4 sc id
theorem Zg8 {sc:Scope} {nm:List Str} {i:Nat} {m:PySem.Expr→Prop} {e:PySem.Expr} (h:Znk sc nm i e=true) (f:∀ id p,nm[i]? = some id→Zd4 sc id=true→m (.Name id p)):m e :=
  Zca h fun id p h=>f id p (eq_of_beq (and2 h).1) (and2 h).2
noncomputable def Zh4 (sc:Scope) (nm:List Str):List Nat→List PySem.Expr→Bool
  | [],es=>es.isEmpty
  | i :: is,es=>onC es fun e r=>Znk sc nm i e && Zh4 sc nm is r
noncomputable def Zoy (sc:Scope) (nm:List Str) (is:List Nat) (e:PySem.Expr):Bool:=Zsx e fun es _ _=>Zh4 sc nm is es
noncomputable def tgOk (sc:Scope) (nm:List Str) (t:Tg) (e:PySem.Expr):Bool:=match t with
  | .var i=>Znk sc nm i e
  | .tup is=>Zoy sc nm is e
noncomputable def Zkd (e:PySem.Expr):Bool:=e.ctorIdx != 25
noncomputable def mtT (P:Pg) (sc:Scope) (nm:List Str) (t:T) (e:PySem.Expr):Bool:=match t with
  | .var i=>Znk sc nm i e
  | .sub a i=>Zsy e fun v sl _=>Zhr sl && mtX P true sc nm a v && mtX P true sc nm i sl
  | .attr a n=>Zin e fun v at' _=>at' == Str.ofString n && mtX P true sc nm a v
  | .tup is=>Zoy sc nm is e
noncomputable def Zlt:T→Bool
  | .tup _=>false
  | _=>true
noncomputable def Zy0 (msg:Str) (es:List PySem.Expr):Bool:=on1 es fun e=>mLit (.str msg) e
noncomputable def nmOk (sc:Scope) (nm:List Str) (nmi:Option Nat) (name:Option Str):Bool:=match nmi with
  | none=>name.isNone
  | some _=>false
mutual
noncomputable def mtS (P:Pg) (sc:Scope) (nm:List Str):S→Stmt→Bool
  | .assign t e,st=>Zyn st fun ts v _=>on1 ts fun tg=>(Ze1 v || (isLC v && Zqr e)) && (Zkd v || Zlt t) && mtT P sc nm t tg && mtX P true sc nm e v
  | .expr e,st=>Zup st fun v _=>Ze1 v && mtX P true sc nm e v
  | .ret e,st=>Zyi st fun v _=>Zil v fun v=>mtX P true sc nm e v
  | .ite c a b,st=>Zyk st fun t x y _=>mtX P true sc nm c t && mtSs P sc nm a x && mtSs P sc nm b y
  | .while c b,st=>Zpt st fun t x o _=>o.isEmpty && (mtX P true sc nm c t && mtSs P sc nm b x)
  | .for t it b,st=>Zyl st fun tg iter x o _=>o.isEmpty && (Zio iter && tgOk sc nm t tg && mtX P true sc nm it iter && mtSs P sc nm b x)
  | .raise cl msg,st=>onRaise st fun c z _=>z.isNone && Zil c fun c=>Zqg sc (P.excs.lookup cl).isSome cl (Zy0 msg) c
  | .try b hs,st=>Zyh st fun x hs' o z _=>(o.isEmpty && z.isEmpty) && (mtSs P sc nm b x && onC hs' fun h₀ r=>mtHs P sc nm hs (h₀ :: r))
  | .pass,st=>Zum st fun _=>true
noncomputable def mtSs (P:Pg) (sc:Scope) (nm:List Str):List S→List Stmt→Bool
  | [],es=>es.isEmpty
  | x :: r,es=>onC es fun e q=>mtS P sc nm x e && mtSs P sc nm r q
noncomputable def mtHs (P:Pg) (sc:Scope) (nm:List Str):List Hd→List ExceptHandler→Bool
  | [],es=>es.isEmpty
  | h :: r,es=>onC es fun e q=>mtH P sc nm h e && mtHs P sc nm r q
noncomputable def mtH (P:Pg) (sc:Scope) (nm:List Str):Hd→ExceptHandler→Bool
  | .mk cl nmi b,e=>match e with
    | .ExceptHandler ty name body _=>Zil ty fun t=>onC body fun x body=>Zb2 sc cl t && (P.excs.lookup cl).isSome && mtSs P sc nm b (x :: body) && nmOk sc nm nmi name
end
end Mine
end
section
open PySem PySem.W PyProof.Rows PySem.Spec PySem.SeqAt PySem.Calls
namespace Mine
noncomputable def HX (g:Gx) (A:Around) (R:RR) (V:VV) (s0:Shared) (x:X) (t:Sem Value):Prop :=
  ∀ (H:Zaa) (s:Shared) (Q:AV→Zaa→Prop) (E:String→Zaa→Prop),St g.c R H s.heap→Sm s0 s→wpX g x V Q E H→wpAny (model g.c.prog g.c.w) A t (TQ g R s0 Q) (TE g R s0 E) s
inductive TTi (c:Cx) (R:RR) (s0:Shared) (Q:AV→Bool→Zaa→Prop) (b:Bool) (s':Shared):Prop
  | mk (v:AV) (H':Zaa) (S:St c R H' s'.heap) (m:Sm s0 s') (q:Q v b H') (h:∀ P:Bool→Prop,Zbp v H' P→P b):TTi c R s0 Q b s'
noncomputable def TT (g:Gx) (R:RR) (s0:Shared) (Q:AV→Bool→Zaa→Prop) (b:Bool) (s':Shared):Prop:=TTi g.c R s0 Q b s'
noncomputable def HT (g:Gx) (A:Around) (R:RR) (V:VV) (s0:Shared) (x:X) (t:Sem Bool):Prop :=
  ∀ (H:Zaa) (s:Shared) (Q:AV→Bool→Zaa→Prop) (E:String→Zaa→Prop),St g.c R H s.heap→Sm s0 s→wpX g x V (fun v H=>Zbp v H fun b=>Q v b H) E H →
    wpAny (model g.c.prog g.c.w) A t (TT g R s0 Q) (TE g R s0 E) s
inductive TQsi (c:Cx) (R:RR) (s0:Shared) (Q:List AV→Zaa→Prop) (vs:List Value) (s':Shared):Prop
  | mk (as:List AV) (H':Zaa) (hv:VRs as vs) (S:St c R H' s'.heap) (m:Sm s0 s') (q:Q as H'):TQsi c R s0 Q vs s'
noncomputable def TQs (g:Gx) (R:RR) (s0:Shared) (Q:List AV→Zaa→Prop) (vs:List Value) (s':Shared):Prop:=TQsi g.c R s0 Q vs s'
noncomputable def HXs (g:Gx) (A:Around) (R:RR) (V:VV) (s0:Shared) (xs:List X) (t:Sem (List Value)):Prop :=
  ∀ (H:Zaa) (s:Shared) (Q:List AV→Zaa→Prop) (E:String→Zaa→Prop),St g.c R H s.heap→Sm s0 s→wpXs g xs V Q E H→wpAny (model g.c.prog g.c.w) A t (TQs g R s0 Q) (TE g R s0 E) s
theorem Zk9 {v:AV} {H:Zaa} {P:Bool→Prop} (h:Zbp v H P):∃ b,P b∧(∀ P':Bool→Prop,Zbp v H P'→P' b)∧∀ P':Bool→Prop,P' b→Zbp v H P':=by
  cases v with
  | none=>exact ⟨_,h,fun _ x=>x,fun _ x=>x⟩
  | bool b=>exact ⟨_,h,fun _ x=>x,fun _ x=>x⟩
  | int i=>exact ⟨_,h,fun _ x=>x,fun _ x=>x⟩
  | str s=>exact ⟨_,h.2,fun _ x=>x.2,fun _ x=>⟨h.1,x⟩⟩
  | ref a =>
    have t:∀ {P':Bool→Prop},Zbp (.ref a) H P'=_:=Zxo
    rw [t] at h;simp only [t]
    generalize H a=o at h ⊢
    cases o with
    | none=>exact h.elim
    | some o=>cases o with
      | list xs=>exact ⟨_,h.2,fun P' x=>x.2,fun P' x=>⟨h.1,x⟩⟩
      | tuple xs=>exact ⟨_,h.2,fun P' x=>x.2,fun P' x=>⟨h.1,x⟩⟩
      | _=>exact h.elim
section
variable {g:Gx} {A:Around} {R:RR} {V:VV} {s0:Shared} {env:Env} {mg mb:Str→Option Value} {e₀:Env} {l₀:List Env}
theorem Zgs {H:Zaa} {s:Shared} {v:Value} {a:AV} {Q:AV→Bool→Zaa→Prop} {E:Value→Shared→Prop} (hv:VR a v) (S:St g.c R H s.heap) (m:Sm s0 s) (q:Zbp a H (fun b=>Q a b H)) :
    wpAny (model g.c.prog g.c.w) A (truthy v) (TT g R s0 Q) E s:=by
  obtain ⟨b,qb,hb,hb'⟩:=Zk9 q
  refine wpAny_mono (Zjd (A:=A) (E:=E) (Qb:=fun b' H'=>H'=H∧b'=b) hv S m (hb' _ ⟨rfl,rfl⟩)) (fun b' s' h=>?_) fun _ _ x=>x
  obtain ⟨H',S',m',e1,e2⟩:=h
  subst e1 e2
  exact ⟨a,H',S',m',qb,hb⟩
theorem HT.plain {x:X} {e:PySem.Expr} {whole:Sem Value} (h:HX g A R V s0 x whole) (he:isTrue e env whole=(do let v ← whole;standAt e.pos;holding [v] (truthy v))) :
    HT g A R V s0 x (isTrue e env whole):=fun H s Q E S m q=>by
  refine isTrue_plain (wpAny_mono (h H s _ E S m q) (fun v s' z=>?_) fun _ _ z=>z) he
  obtain ⟨a,H',hv,S',m',q'⟩:=z
  exact Zgs hv S' m' q'
theorem Zzf {v:AV} {cc:Const} {k:Nat} {p:Pos} (hc:Zy8 v cc=true):HX g A R V s0 (.lit v) (eval (.Constant cc k p) env):=fun H s Q E S m q=>by
  cases v with
  | none=>rw [eq_of_beq hc];exact wpAny_Constant_none (TQ.pure .none S m q)
  | bool b=>rw [eq_of_beq hc];exact wpAny_Constant_bool (TQ.pure (.bool _) S m q)
  | int i=>rw [eq_of_beq hc];exact wpAny_Constant_int (TQ.toks (.int _ _) S m q)
  | str x=>rw [eq_of_beq (and2 hc).1];exact wpAny_Constant_str (TQ.toks (.str _ _ (and2 hc).2) S m q)
  | ref a=>exact Bool.noConfusion hc
theorem Zza {sc:Scope} {nm:List Str} {i:Nat} {id:Str} {p:Pos} (fr:Frm R env sc nm V) (h1:nm[i]? = some id) (h2:Zir sc id=true) (h3:Zdv id=true) :
    HX g A R V s0 (.var i) (eval (.Name id p) env):=fun H s Q E S m q=>by
  unfold Zdv at h3
  simp only [Bool.and_eq_true,Bool.not_eq_true'] at h3
  dsimp only [Zah,Zae,Zau,Zbq,Zbb,x_ao,Zap,Za1,Zar,Zav,Za0,Zam,Zak,x_bm,Zbo,Zaw,Zbc,Zcl,Zao,Za7,Za3,Zbg,Za8] at q
  rcases fr.kok id h2 with k | k | k
  · obtain ⟨mm,r1,r2⟩:=fr.ns
    obtain ⟨v,e,ov⟩:=r2 i id h1 k
    rw [e] at q
    generalize hw:mm id=w at ov
    cases ov with
    | none=>exact q.elim
    | some hv=>exact wpAny_Name (wpAny_loadName_local fr.kind k (S.res _ _ r1).2 hw (TQ.pure hv S m q)) h3.1
  · obtain ⟨a,x,v,e1,e2,e3,ov⟩:=fr.cell i id h1 (.inl k)
    rw [e3] at q
    cases ov with
    | none=>exact q.elim
    | some hv=>exact wpAny_Name (wpAny_loadName_cell fr.kind k e1 (S.res _ _ e2).2 (TQ.pure hv S m q)) h3.1
  · obtain ⟨a,x,v,e1,e2,e3,ov⟩:=fr.cell i id h1 (.inr k)
    rw [e3] at q
    cases ov with
    | none=>exact q.elim
    | some hv=>exact wpAny_Name (wpAny_loadName_free fr.kind k e1 (S.res _ _ e2).2 (TQ.pure hv S m q) h3.2) h3.1
theorem Zkk {sc:Scope} {nm:List Str} {n:String} {e:PySem.Expr} {v:Value} {H:Zaa} {s:Shared} {Q:Value→Shared→Prop} {E:Value→Shared→Prop} (C:g.c.Ok mg mb) (fr:Frm R env sc nm V) (S:St g.c R H s.heap)
    (hn:Zb2 sc n e=true) (hk:nsIn g.c.K mainGlobals (Str.ofString n)=some (some v)) (q:Q v s):wpAny (model g.c.prog g.c.w) A (eval e env) Q E s:=by
  refine Zca (m:=fun e=>wpAny (model g.c.prog g.c.w) A (eval e env) Q E s) hn fun id p hn=>?_
  have h2:=and2 hn;have h1:=and2 h2.1
  refine Name_function_global fr.kind (fr.sco _ h1.2) (loadGlobal_global (mg:=mg) ?_ (eq_of_beq h1.1 ▸ mg_of C.kin C.g hk) q) (not1 (and2 h2.2).1)
  rw [fr.glob];exact C.g.keeps S.stays
theorem Zq1 {sc:Scope} {nm:List Str} {n:String} {e:PySem.Expr} {v:Value} {H:Zaa} {s:Shared} {Q:Value→Shared→Prop} {E:Value→Shared→Prop} (C:g.c.Ok mg mb) (fr:Frm R env sc nm V) (S:St g.c R H s.heap)
    (hn:Zb2 sc n e=true) (hk:nsIn g.c.K mainGlobals (Str.ofString n)=some none) (hne:(Str.ofString n == Str.ofString "__name__")=false) (hb:bootBuiltins (Str.ofString n)=some v) (q:Q v s) :
    wpAny (model g.c.prog g.c.w) A (eval e env) Q E s:=by
  refine Zca (m:=fun e=>wpAny (model g.c.prog g.c.w) A (eval e env) Q E s) hn fun id p hn=>?_
  have h2:=and2 hn;have h1:=and2 h2.1
  have he:=eq_of_beq h1.1
  refine Name_function_global fr.kind (fr.sco _ h1.2) (loadGlobal_builtin (mg:=mg) (mb:=mb) ?_ (he ▸ mg_none_of C.kin C.g hk) ?_ (he ▸ (C.builtins _ (ne_of_beq_false hne)).trans hb) q) (not1 (and2 h2.2).1)
  · rw [fr.glob];exact C.g.keeps S.stays
  · rw [fr.blt];exact C.b.keeps S.stays
set_option tactic.hygienic true in
theorem Zwu {sc:Scope} {nm:List Str} {n:String} {e:PySem.Expr} (C:g.c.Ok mg mb) (PO:PgOk g.c) (fr:Frm R env sc nm V) (hn:Zb2 sc n e=true):HX g A R V s0 (.glob n) (eval e env):=fun H s Q E S m q=>by
  dsimp only [Zah,Zae,Zau,Zbq,Zbb,x_ao,Zap,Za1,Zar,Zav,Za0,Zam,Zak,x_bm,Zbo,Zaw,Zbc,Zcl,Zao,Za7,Za3,Zbg,Za8] at q
  split at q
  · rename_i v hv
    obtain ⟨x,h1,h2⟩:=PO.const n v hv
    exact Zkk C fr S hn h1 (TQ.pure h2 S m q)
  · exact q.elim
theorem Zzj {op:Operator} {a b:X} {l r:PySem.Expr} {p:Pos} (C:g.c.Ok mg mb) (ev:Ev g A R e₀ l₀) (ha:HX g A R V s0 a (eval l env)) (hb:HX g A R V s0 b (eval r env)):HX g A R V s0 (.bin op a b) (eval (.BinOp l op r p) env) :=
  fun H s Q E S m q=>by
  dsimp only [Zah,Zae,Zau,Zbq,Zbb,x_ao,Zap,Za1,Zar,Zav,Za0,Zam,Zak,x_bm,Zbo,Zaw,Zbc,Zcl,Zao,Za7,Za3,Zbg,Za8] at q
  refine wpAny_BinOp (wpAny_mono (ha H s _ E S m q) (fun u s₁ z=>?_) fun _ _ z=>z)
  obtain ⟨au,H₁,hu,S₁,m₁,q₁⟩:=z
  refine wpAny_mono (hb H₁ s₁ _ E S₁ m₁ q₁) (fun v s₂ z=>?_) fun _ _ z=>z
  obtain ⟨av,H₂,hv,S2,m₂,q₂⟩:=z
  exact Z0n C ev hu hv S2 m₂ q₂
theorem Zze {a:X} {l:PySem.Expr} {p:Pos} (ha:HX g A R V s0 a (eval l env)):HX g A R V s0 (.neg a) (eval (.UnaryOp .USub l p) env):=fun H s Q E S m q=>by
  dsimp only [Zah,Zae,Zau,Zbq,Zbb,x_ao,Zap,Za1,Zar,Zav,Za0,Zam,Zak,x_bm,Zbo,Zaw,Zbc,Zcl,Zao,Za7,Za3,Zbg,Za8] at q
  refine wpAny_UnaryOp (wpAny_mono (ha H s _ E S m q) (fun u s₁ z=>?_) fun _ _ z=>z)
  obtain ⟨au,H₁,hu,S₁,m₁,q₁⟩:=z
  split at q₁
  · cases hu;exact neg_int (TQ.toks (.int _ _) S₁ m₁ q₁)
  · exact q₁.elim
theorem Zzc {a:X} {l:PySem.Expr} {p:Pos} (ha:HX g A R V s0 a (eval l env)):HX g A R V s0 (.not a) (eval (.UnaryOp .Not l p) env):=fun H s Q E S m q=>by
  dsimp only [Zah,Zae,Zau,Zbq,Zbb,x_ao,Zap,Za1,Zar,Zav,Za0,Zam,Zak,x_bm,Zbo,Zaw,Zbc,Zcl,Zao,Za7,Za3,Zbg,Za8] at q
  refine wpAny_UnaryOp (wpAny_mono (ha H s _ E S m q) (fun u s₁ z=>?_) fun _ _ z=>z)
  obtain ⟨au,H₁,hu,S₁,m₁,q₁⟩:=z
  refine not_of (wpAny_mono (Zjd hu S₁ m₁ (Qb:=fun b H=>Q (.bool (!b)) H) q₁) (fun b s₂ z=>?_) fun _ _ z=>z)
  obtain ⟨H₂,S2,m₂,q₂⟩:=z
  exact TQ.pure (.bool _) S2 m₂ q₂
theorem Zzk {a:X} {l:PySem.Expr} {p:Pos} {whole:Sem Value} (ha:HT g A R V s0 a (isTrue l env (eval l env))):HT g A R V s0 (.not a) (isTrue (.UnaryOp .Not l p) env whole):=fun H s Q E S m q=>by
  dsimp only [Zah,Zae,Zau,Zbq,Zbb,x_ao,Zap,Za1,Zar,Zav,Za0,Zam,Zak,x_bm,Zbo,Zaw,Zbc,Zcl,Zao,Za7,Za3,Zbg,Za8] at q
  refine isTrue_not (wpAny_mono (ha H s (fun _ b H=>Q (.bool (!b)) (!b) H) E S m q) (fun b s₁ z=>?_) fun _ _ z=>z)
  obtain ⟨v,H₁,S₁,m₁,q₁,_⟩:=z
  exact ⟨.bool (!b),H₁,S₁,m₁,q₁,fun P z=>z⟩
theorem Zzi {op:CmpOp} {a b:X} {l r:PySem.Expr} {p:Pos} (C:g.c.Ok mg mb) (ev:Ev g A R e₀ l₀) (hm:behindInMarks op r=false) (ha:HX g A R V s0 a (eval l env)) (hb:HX g A R V s0 b (eval r env)) :
    HX g A R V s0 (.cmp op a b) (eval (.Compare l [op] [r] p) env):=fun H s Q E S m q=>by
  dsimp only [Zah,Zae,Zau,Zbq,Zbb,x_ao,Zap,Za1,Zar,Zav,Za0,Zam,Zak,x_bm,Zbo,Zaw,Zbc,Zcl,Zao,Za7,Za3,Zbg,Za8] at q
  refine wpAny_Compare1 (wpAny_mono (ha H s _ E S m q) (fun u s₁ z=>?_) fun _ _ z=>z) hm
  obtain ⟨au,H₁,hu,S₁,m₁,q₁⟩:=z
  refine wpAny_mono (hb H₁ s₁ _ E S₁ m₁ q₁) (fun v s₂ z=>?_) fun _ _ z=>z
  obtain ⟨av,H₂,hv,S2,m₂,q₂⟩:=z
  exact Zno C ev hu hv S2 m₂ q₂
theorem Zzl {op:CmpOp} {a b:X} {l r:PySem.Expr} {p:Pos} {whole:Sem Value} (C:g.c.Ok mg mb) (ev:Ev g A R e₀ l₀) (hm:behindInMarks op r=false) (ha:HX g A R V s0 a (eval l env)) (hb:HX g A R V s0 b (eval r env)) :
    HT g A R V s0 (.cmp op a b) (isTrue (.Compare l [op] [r] p) env whole):=fun H s Q E S m q=>by
  dsimp only [Zah,Zae,Zau,Zbq,Zbb,x_ao,Zap,Za1,Zar,Zav,Za0,Zam,Zak,x_bm,Zbo,Zaw,Zbc,Zcl,Zao,Za7,Za3,Zbg,Za8] at q
  refine wpAny_isTrue_Compare1 (wpAny_mono (ha H s _ E S m q) (fun u s₁ z=>?_) fun _ _ z=>z) hm
  obtain ⟨au,H₁,hu,S₁,m₁,q₁⟩:=z
  refine wpAny_mono (hb H₁ s₁ _ E S₁ m₁ q₁) (fun v s₂ z=>?_) fun _ _ z=>z
  obtain ⟨av,H₂,hv,S2,m₂,q₂⟩:=z
  refine wpAny_mono (Zno C ev hu hv S2 m₂ q₂) (fun c s₃ z=>?_) fun _ _ z=>z
  obtain ⟨ac,H₃,hc,S3,m3,q₃⟩:=z
  exact Zgs hc S3 m3 q₃
theorem Zzw {M:Model} {E:Value→Shared→Prop} {s:Shared} {pos:Pos} {a:Value} {op1 op2:CmpOp} {t₁ t₂:Sem Value} {Q:Value→Shared→Prop}
    (h:wpAny M A t₁ (fun b s₁=>wpAny M A (compareOp op1 a b) (fun c s₂=>wpAny M A (truthy c) (fun t s₃=>if t then wpAny M A t₂ (fun d s₄=>wpAny M A (compareOp op2 b d) Q E s₄) E s₃ else Q c s₃) E s₂) E s₁) E s) :
    wpAny M A (compareChain pos a [op1,op2] [t₁,t₂]) Q E s:=by
  show wpAny M A (do
    let rv ← holding [a] t₁
    standAt pos
    let c ← holding [a,rv] (compareOp op1 a rv)
    release [a,rv] [c]
    if ← holding [c,rv] (truthy c) then compareChain pos rv [op2] [t₂] else pure c) Q E s
  refine wpAny_bind (wpAny_holding (wpAny_mono h (fun b s₁ z=>?_) fun _ _ z=>z))
  refine wpAny_bind (wpAny_standAt (wpAny_bind (wpAny_holding (wpAny_mono z (fun c s₂ z=>?_) fun _ _ z=>z))))
  refine wpAny_bind (wpAny_release (wpAny_bind (wpAny_holding (wpAny_mono z (fun t s₃ z=>?_) fun _ _ z=>z))))
  cases t with
  | false=>exact wpAny_pure z
  | true =>
    show wpAny M A (do
      let rv ← holding [b] t₂
      standAt pos
      operate [b,rv] (compareOp op2 b rv)) Q E s₃
    exact wpAny_bind (wpAny_holding (wpAny_mono z (fun d s₄ z=>wpAny_bind (wpAny_standAt (wpAny_operating z))) fun _ _ z=>z))
theorem Zz9 {M:Model} {E:Value→Shared→Prop} {s:Shared} {pos:Pos} {a:Value} {op1 op2:CmpOp} {t₁ t₂:Sem Value} {Q:Bool→Shared→Prop}
    (h:wpAny M A t₁ (fun b s₁=>wpAny M A (compareOp op1 a b) (fun c s₂=>wpAny M A (truthy c) (fun t s₃=>if t then wpAny M A t₂ (fun d s₄=>wpAny M A (compareOp op2 b d) (fun c' s5=>wpAny M A (truthy c') Q E s5) E s₄) E s₃ else Q false s₃) E s₂) E s₁) E s) :
    wpAny M A (testChain pos a [op1,op2] [t₁,t₂]) Q E s:=by
  show wpAny M A (do
    let rv ← holding [a] t₁
    standAt pos
    let c ← holding [a,rv] (compareOp op1 a rv)
    release [a,rv] [c]
    if ← holding [c,rv] (truthy c) then testChain pos rv [op2] [t₂] else pure false) Q E s
  refine wpAny_bind (wpAny_holding (wpAny_mono h (fun b s₁ z=>?_) fun _ _ z=>z))
  refine wpAny_bind (wpAny_standAt (wpAny_bind (wpAny_holding (wpAny_mono z (fun c s₂ z=>?_) fun _ _ z=>z))))
  refine wpAny_bind (wpAny_release (wpAny_bind (wpAny_holding (wpAny_mono z (fun t s₃ z=>?_) fun _ _ z=>z))))
  cases t with
  | false=>exact wpAny_pure z
  | true =>
    show wpAny M A (do
      let rv ← holding [b] t₂
      standAt pos
      let c ← operate [b,rv] (compareOp op2 b rv)
      holding [c] (truthy c)) Q E s₃
    exact wpAny_bind (wpAny_holding (wpAny_mono z (fun d s₄ z=>wpAny_bind (wpAny_standAt (wpAny_bind (wpAny_operating (wpAny_mono z (fun c' s5 z=>wpAny_holding z) fun _ _ z=>z))))) fun _ _ z=>z))
theorem Zww {op1 op2:CmpOp} {a b d:X} {l r₁ r₂:PySem.Expr} {p:Pos} (C:g.c.Ok mg mb) (ev:Ev g A R e₀ l₀) (hm:lastMarks [op1,op2] [r₁,r₂]=false)
    (ha:HX g A R V s0 a (eval l env)) (hb:HX g A R V s0 b (eval r₁ env)) (hd:HX g A R V s0 d (eval r₂ env)) :
    HX g A R V s0 (.cmp2 op1 op2 a b d) (eval (.Compare l [op1,op2] [r₁,r₂] p) env):=fun H s Q E S m q=>by
  dsimp only [Zah,Zae,Zau,Zbq,Zbb,x_ao,Zap,Za1,Zar,Zav,Za0,Zam,Zak,x_bm,Zbo,Zaw,Zbc,Zcl,Zao,Za7,Za3,Zbg,Za8] at q
  rw [arm_eval_Compare,markedEach_of_false _ _ _ hm]
  refine wpAny_bind (wpAny_mono (ha H s _ E S m q) (fun u s₁ z=>?_) fun _ _ z=>z)
  obtain ⟨au,H₁,hu,S₁,m₁,q₁⟩:=z
  refine Zzw (wpAny_mono (hb H₁ s₁ _ E S₁ m₁ q₁) (fun v s₂ z=>?_) fun _ _ z=>z)
  obtain ⟨av,H₂,hv,S2,m₂,q₂⟩:=z
  refine wpAny_mono (Zno C ev hu hv S2 m₂ q₂) (fun c s₃ z=>?_) fun _ _ z=>z
  obtain ⟨ac,H₃,hc,S3,m3,q₃⟩:=z
  refine wpAny_mono (Zjd (Qb:=fun t H=>if t then wpX g d V (fun z H=>wcmp op2 av z Q H) E H else Q ac H) hc S3 m3 q₃) (fun t s₄ z=>?_) fun _ _ z=>z
  obtain ⟨H₄,S4,m4,q₄⟩:=z
  cases t with
  | false=>exact TQ.pure hc S4 m4 q₄
  | true =>
    refine wpAny_mono (hd H₄ s₄ _ E S4 m4 q₄) (fun w s5 z=>?_) fun _ _ z=>z
    obtain ⟨aw,H₅,hw,S₅,m5,q5⟩:=z
    exact Zno C ev hv hw S₅ m5 q5
theorem Zwz {op1 op2:CmpOp} {a b d:X} {l r₁ r₂:PySem.Expr} {p:Pos} {whole:Sem Value} (C:g.c.Ok mg mb) (ev:Ev g A R e₀ l₀) (hm:lastMarks [op1,op2] [r₁,r₂]=false)
    (ha:HX g A R V s0 a (eval l env)) (hb:HX g A R V s0 b (eval r₁ env)) (hd:HX g A R V s0 d (eval r₂ env)) :
    HT g A R V s0 (.cmp2 op1 op2 a b d) (isTrue (.Compare l [op1,op2] [r₁,r₂] p) env whole):=fun H s Q E S m q=>by
  dsimp only [Zah,Zae,Zau,Zbq,Zbb,x_ao,Zap,Za1,Zar,Zav,Za0,Zam,Zak,x_bm,Zbo,Zaw,Zbc,Zcl,Zao,Za7,Za3,Zbg,Za8] at q
  rw [arm_isTrue_Compare,markedEach_of_false _ _ _ hm]
  refine wpAny_bind (wpAny_mono (ha H s _ E S m q) (fun u s₁ z=>?_) fun _ _ z=>z)
  obtain ⟨au,H₁,hu,S₁,m₁,q₁⟩:=z
  refine Zz9 (wpAny_mono (hb H₁ s₁ _ E S₁ m₁ q₁) (fun v s₂ z=>?_) fun _ _ z=>z)
  obtain ⟨av,H₂,hv,S2,m₂,q₂⟩:=z
  refine wpAny_mono (Zno C ev hu hv S2 m₂ q₂) (fun c s₃ z=>?_) fun _ _ z=>z
  obtain ⟨ac,H₃,hc,S3,m3,q₃⟩:=z
  refine wpAny_mono (Zgs (Q:=fun ac t H=>if t then wpX g d V (fun z H=>wcmp op2 av z (fun v H=>Zbp v H fun b=>Q v b H) H) E H else Zbp ac H fun b=>Q ac b H) hc S3 m3 q₃) (fun t s₄ z=>?_) fun _ _ z=>z
  obtain ⟨ac',H₄,S4,m4,q₄,hb4⟩:=z
  cases t with
  | false =>
    simp only [Bool.false_eq_true,if_false] at q₄ ⊢
    exact ⟨ac',H₄,S4,m4,hb4 _ q₄,hb4⟩
  | true =>
    simp only [if_true] at q₄ ⊢
    refine wpAny_mono (hd H₄ s₄ _ E S4 m4 q₄) (fun w s5 z=>?_) fun _ _ z=>z
    obtain ⟨aw,H₅,hw,S₅,m5,q5⟩:=z
    refine wpAny_mono (Zno C ev hv hw S₅ m5 q5) (fun c' s6 z=>?_) fun _ _ z=>z
    obtain ⟨ac'',H₆,hc'',S6,m6,q6⟩:=z
    exact Zgs hc'' S6 m6 q6
inductive Each (P:X→PySem.Expr→Prop):List X→List PySem.Expr→Prop
  | nil:Each P [] []
  | cons {x e xs es}:P x e→Each P xs es→Each P (x :: xs) (e :: es)
theorem Z0x {isAnd:Bool} {p:Pos} {xs:List X} {es:List PySem.Expr} (h:Each (fun x e=>HX g A R V s0 x (eval e env)) xs es):HX g A R V s0 (.ao isAnd xs) (boolOp p (if isAnd then .And else .Or) (evalEach es env)):=by
  induction h with
  | nil=>exact fun H s Q E S m q=>q.elim
  | @cons x e _ _ hx r ih =>
  cases r with
  | nil =>
    intro H s Q E S m q
    dsimp only [Zah,Zae,Zau,Zbq,Zbb,x_ao,Zap,Za1,Zar,Zav,Za0,Zam,Zak,x_bm,Zbo,Zaw,Zbc,Zcl,Zao,Za7,Za3,Zbg,Za8,Zba,Zaz] at q
    show wpAny _ _ (eval e env) _ _ _
    exact hx H s Q E S m q
  | @cons y f xs es hy r =>
    intro H s Q E S m q
    dsimp only [Zah,Zae,Zau,Zbq,Zbb,x_ao,Zap,Za1,Zar,Zav,Za0,Zam,Zak,x_bm,Zbo,Zaw,Zbc,Zcl,Zao,Za7,Za3,Zbg,Za8] at q ih
    rw [Zaz] at q
    show wpAny _ _ (do
      let v ← eval e env
      standAt p
      let t ← holding [v] (truthy v)
      match (if isAnd then PySem.BoolOp.And else PySem.BoolOp.Or),t with
      | .And,false | .Or,true=>pure v
      | _,_=>boolOp p (if isAnd then .And else .Or) (evalEach (f :: es) env)) _ _ _
    refine wpAny_bind (wpAny_mono (hx H s _ E S m q) (fun v s₁ z=>?_) fun _ _ z=>z)
    obtain ⟨av,H₁,hv,S₁,m₁,q₁⟩:=z
    refine wpAny_bind (wpAny_standAt (wpAny_bind (wpAny_holding (wpAny_mono (Zjd (Qb:=fun b H=>if b=isAnd then wpAO g isAnd (y :: xs) V Q E H else Q av H) hv S₁ m₁ q₁) (fun t s₂ z=>?_) fun _ _ z=>z))))
    obtain ⟨H₂,S2,m₂,q₂⟩:=z
    have ih':=ih H₂ s₂ Q E S2 m₂
    dsimp only [Zah,Zae,Zau,Zbq,Zbb,x_ao,Zap,Za1,Zar,Zav,Za0,Zam,Zak,x_bm,Zbo,Zaw,Zbc,Zcl,Zao,Za7,Za3,Zbg,Za8] at ih'
    cases isAnd <;> cases t <;> simp only [Bool.false_eq_true,if_false,if_true,reduceIte] at q₂ ih' ⊢
    · exact ih' q₂
    · exact wpAny_pure (TQ.pure hv S2 m₂ q₂)
    · exact wpAny_pure (TQ.pure hv S2 m₂ q₂)
    · exact ih' q₂
theorem Z0y {isAnd:Bool} {xs:List X} {es:List PySem.Expr} (h:Each (fun x e=>HT g A R V s0 x (isTrue e env (eval e env))) xs es):HT g A R V s0 (.ao isAnd xs) (allTrue (if isAnd then .And else .Or) es env):=by
  induction h with
  | nil=>exact fun H s Q E S m q=>q.elim
  | @cons x e _ _ hx r ih =>
  cases r with
  | nil =>
    intro H s Q E S m q
    dsimp only [Zah,Zae,Zau,Zbq,Zbb,x_ao,Zap,Za1,Zar,Zav,Za0,Zam,Zak,x_bm,Zbo,Zaw,Zbc,Zcl,Zao,Za7,Za3,Zbg,Za8,Zba,Zaz] at q
    rw [arm_allTrue_cons]
    refine wpAny_bind (wpAny_mono (hx H s Q E S m q) (fun t s₁ z=>?_) fun _ _ z=>z)
    cases isAnd <;> cases t <;> exact wpAny_pure z
  | @cons y f xs es hy r =>
    intro H s Q E S m q
    dsimp only [Zah,Zae,Zau,Zbq,Zbb,x_ao,Zap,Za1,Zar,Zav,Za0,Zam,Zak,x_bm,Zbo,Zaw,Zbc,Zcl,Zao,Za7,Za3,Zbg,Za8] at q
    rw [Zaz] at q
    rw [arm_allTrue_cons]
    refine wpAny_bind (wpAny_mono (hx H s (fun v b H=>if b=isAnd then wpAO g isAnd (y :: xs) V (fun v H=>Zbp v H fun b=>Q v b H) E H else Zbp v H fun b=>Q v b H) E S m q) (fun t s₁ z=>?_) fun _ _ z=>z)
    obtain ⟨v,H₁,S₁,m₁,q₁,hb⟩:=z
    have ih':=ih H₁ s₁ Q E S₁ m₁
    dsimp only [Zah,Zae,Zau,Zbq,Zbb,x_ao,Zap,Za1,Zar,Zav,Za0,Zam,Zak,x_bm,Zbo,Zaw,Zbc,Zcl,Zao,Za7,Za3,Zbg,Za8] at ih'
    cases isAnd <;> cases t <;> simp only [Bool.false_eq_true,if_false,if_true,reduceIte] at q₁ ih' ⊢
    · exact ih' q₁
    · exact wpAny_pure ⟨v,H₁,S₁,m₁,hb (fun b=>Q v b H₁) q₁,hb⟩
    · exact wpAny_pure ⟨v,H₁,S₁,m₁,hb (fun b=>Q v b H₁) q₁,hb⟩
    · exact ih' q₁
end
end Mine
end
section
open PySem PySem.W PyProof.Rows PySem.Spec PySem.SeqAt PySem.Calls
namespace Mine
theorem Zbf {e:PySem.Expr} {r:List PySem.Expr} {env:Env} (h:Zc1 e=true):starEach (e :: r) env=(false,eval e env) :: starEach r env:=by
  cases e <;> first | rfl | exact Bool.noConfusion h
theorem Zci {pos:Pos} {t:Sem Value} {r:List (Bool×Sem Value)}:backTo pos ((false,t) :: r)=(false,t) :: backTo pos r:=rfl
section
variable {g:Gx} {A:Around} {R:RR} {V:VV} {s0:Shared} {env:Env} {mg mb:Str→Option Value} {e₀:Env} {l₀:List Env}
abbrev Ze7 (g:Gx) (A:Around) (R:RR) (V:VV) (s0:Shared) (env:Env):List X→List PySem.Expr→Prop:=Each (fun x e=>HX g A R V s0 x (eval e env)∧Zc1 e=true)
theorem hxs {pos:Pos} {xs:List X} {es:List PySem.Expr} (h:Ze7 g A R V s0 env xs es):HXs g A R V s0 xs (spliced (backTo pos (starEach es env))):=by
  induction h with
  | nil =>
    intro H s Q E S m q
    exact spliced_nil ⟨[],H,.nil,S,m,q⟩
  | cons hx r ih =>
    intro H s Q E S m q
    dsimp only [Zaf,Zac] at q
    (rw [Zbf hx.2];dsimp only [Zci])
    refine spliced_cons (wpAny_mono (hx.1 H s _ E S m q) (fun v s₁ z=>?_) fun _ _ z=>z)
    obtain ⟨av,H₁,hv,S₁,m₁,q₁⟩:=z
    refine wpAny_mono (ih H₁ s₁ _ E S₁ m₁ q₁) (fun vs s₂ z=>?_) fun _ _ z=>z
    obtain ⟨as,H₂,hvs,S2,m₂,q₂⟩:=z
    exact ⟨av :: as,H₂,.cons hv hvs,S2,m₂,q₂⟩
theorem Zf7 {pos:Pos} {xs:List X} {es:List PySem.Expr} (h:Ze7 g A R V s0 env xs es):(backTo pos (starEach es env)).any (·.1)=false:=by
  induction h with
  | nil=>rfl
  | cons hx r ih=>(rw [Zbf hx.2];dsimp only [Zci];rw [List.any_cons,ih]);rfl
theorem Zma {pos:Pos} {f:Value} {xs:List X} {es:List PySem.Expr} {H:Zaa} {s:Shared} {Q':List AV→Zaa→Prop} {E:String→Zaa→Prop} {Q:Args→Shared→Prop} (hx:Ze7 g A R V s0 env xs es) (S:St g.c R H s.heap) (m:Sm s0 s)
    (q:wpXs g xs V Q' E H) (k:∀ as vs H' s',VRs as vs→St g.c R H' s'.heap→Sm s0 s'→Q' as H'→Q ⟨vs,[]⟩ s') :
    wpAny (model g.c.prog g.c.w) A (evalArgs f true (backTo pos (starEach es env)) []) Q (TE g R s0 E) s:=by
  have z:=hxs (pos:=pos) hx H s Q' E S m q
  cases hx with
  | nil =>
    simp only [Zaf,Zac] at q
    exact evalArgs_nil3 (k [] [] H s .nil S m q)
  | cons hx r =>
    rw [Zbf hx.2,Zci] at z ⊢
    refine evalArgs_plain (wpAny_mono z (fun vs s' z=>?_) fun _ _ z=>z)
    obtain ⟨as,H',h1,h2,h3,h4⟩:=z
    exact k as vs H' s' h1 h2 h3 h4
theorem Zrf {pos:Pos} {f:Addr} {first:List Value} {xs:List X} {es:List PySem.Expr} {H:Zaa} {s:Shared} {Q':List AV→Zaa→Prop} {E:String→Zaa→Prop} {Q:Value→Shared→Prop} (C:g.c.Ok mg mb) (hk:keepIn g.c.K (.ref f)=true)
    (hx:Ze7 g A R V s0 env xs es) (S:St g.c R H s.heap) (m:Sm s0 s) (q:wpXs g xs V Q' E H)
    (k:∀ as vs H' s',VRs as vs→St g.c R H' s'.heap→Sm s0 s'→Q' as H'→wpAny (model g.c.prog g.c.w) A (call (.ref f) (first ++ vs)) Q (TE g R s0 E) s') :
    wpAny (model g.c.prog g.c.w) A (callWith pos (.ref f) first (backTo pos (starEach es env)) []) Q (TE g R s0 E) s :=
  callWith_of (P:=fun h=>g.c.K.In h) (by rw [Zf7 hx];rfl) (keeps_K hk) (Zma hx S m q fun as vs H' s' h1 h2 h3 h4=>⟨C.kin.keeps h2.stays,k as vs H' s' h1 h2 h3 h4⟩)
theorem Zrg {pos:Pos} {f:Value} {first:List Value} {xs:List X} {es:List PySem.Expr} {H:Zaa} {s:Shared} {Q':List AV→Zaa→Prop} {E:String→Zaa→Prop} {Q:Value→Shared→Prop} (hf:(∃ i,f = .builtin i)∨∃ i,f = .type i)
    (hx:Ze7 g A R V s0 env xs es) (S:St g.c R H s.heap) (m:Sm s0 s) (q:wpXs g xs V Q' E H)
    (k:∀ as vs H' s',VRs as vs→St g.c R H' s'.heap→Sm s0 s'→Q' as H'→wpAny (model g.c.prog g.c.w) A (call f (first ++ vs)) Q (TE g R s0 E) s') :
    wpAny (model g.c.prog g.c.w) A (callWith pos f first (backTo pos (starEach es env)) []) Q (TE g R s0 E) s:=by
  rcases hf with ⟨i,rfl⟩ | ⟨i,rfl⟩
  · exact Calls.callWith_builtin (Zf7 hx) (Zma hx S m q k)
  · exact PyProof.Rows.callWith_type (Zf7 hx) (Zma hx S m q k)
theorem Zd2 {sc:Scope} {n:String} {e:PySem.Expr} (h:Zb2 sc n e=true):∃ id p,e = .Name id p:=by
  exact Zca (m:=fun e=>∃ id p,e = .Name id p) h fun id p _=>⟨id,p,rfl⟩
theorem Zk0 {f:String} {as:List AV} {vs:List Value} {H:Zaa} {s:Shared} {Q:AV→Zaa→Prop} {E:String→Zaa→Prop} (ev:Ev g A R e₀ l₀) (hv:VRs as vs) (S:St g.c R H s.heap) (m:Sm s0 s)
    (q:CallOK g.c g.n g.md f as Q E H):wpAny (model g.c.prog g.c.w) A (call (.ref (g.c.fa f)) vs) (TQ g R s0 Q) (TE g R s0 E) s:=by
  refine wpAny_call (q A (e₀ :: l₀) R s vs _ ⟨ev.aok.frames,by have:=ev.aok.depth;lia,by have:=ev.aok.units;lia,ev.aok.hand⟩ ev.stk S hv ?_ ?_)
  · exact fun av v s' H' h1 h2 h3 h4=>⟨av,H',h1,h2,m.trans h3,h4⟩
  · exact fun e cl s' H' h1 h2 h3=>⟨e,cl,H',rfl,h1,m.trans h2,h3⟩
theorem Zwx {sc:Scope} {nm:List Str} {f:String} {fe:PySem.Expr} {args:List PySem.Expr} {xs:List X} {pos:Pos} (C:g.c.Ok mg mb) (PO:PgOk g.c) (ev:Ev g A R e₀ l₀) (fr:Frm R env sc nm V) (hn:Zb2 sc f fe=true)
    (hg:g.c.P.gfns.contains f=true) (hx:Ze7 g A R V s0 env xs args):HX g A R V s0 (.call f xs) (eval (.Call fe args [] pos) env):=fun H s Q E S m q=>by
  dsimp only [Zah,Zae,Zau,Zbq,Zbb,x_ao,Zap,Za1,Zar,Zav,Za0,Zam,Zak,x_bm,Zbo,Zaw,Zbc,Zcl,Zao,Za7,Za3,Zbg,Za8] at q
  obtain ⟨h1,h2⟩:=PO.fn f hg
  obtain ⟨id,p,rfl⟩:=Zd2 hn
  refine wpAny_Call_NameR (Zkk C fr S hn h1 ?_)
  refine Zrf C h2 hx S m q fun as vs H' s' k1 k2 k3 k4=>?_
  exact Zk0 ev k1 k2 k3 k4
theorem Zwr {sc:Scope} {nm:List Str} {f:Pr} {fe:PySem.Expr} {args:List PySem.Expr} {xs:List X} {pos:Pos} (C:g.c.Ok mg mb) (PO:PgOk g.c) (ev:Ev g A R e₀ l₀) (fr:Frm R env sc nm V) (hn:Zb2 sc f.str fe=true)
    (hg:g.c.P.prims.contains f.str=true) (hx:Ze7 g A R V s0 env xs args):HX g A R V s0 (.prim f xs) (eval (.Call fe args [] pos) env):=fun H s Q E S m q=>by
  dsimp only [Zah,Zae,Zau,Zbq,Zbb,x_ao,Zap,Za1,Zar,Zav,Za0,Zam,Zak,x_bm,Zbo,Zaw,Zbc,Zcl,Zao,Za7,Za3,Zbg,Za8] at q
  obtain ⟨h1,h2,h3⟩:=PO.prim f.str hg
  rw [Zj2] at h3
  obtain ⟨id,p,rfl⟩:=Zd2 hn
  refine wpAny_Call_NameR (Zq1 C fr S hn h1 h2 h3 ?_)
  exact Zrg (Znt f) hx S m q fun as vs H' s' k1 k2 k3 k4=>Zxz C ev k1 k2 k3 k4
theorem Zzg {sc:Scope} {nm:List Str} {ty:String} {fe t x:PySem.Expr} {a:X} {pos:Pos} {tv:Value} (C:g.c.Ok mg mb) (PO:PgOk g.c) (fr:Frm R env sc nm V) (hn:Zb2 sc "isinstance" fe=true) (hg:g.c.P.prims.contains "isinstance" = true)
    (hst:Zc1 t=true) (ht:∀ {H:Zaa} {s:Shared} {Q:Value→Shared→Prop} {E:Value→Shared→Prop},St g.c R H s.heap→Q tv s→wpAny (model g.c.prog g.c.w) A (eval t env) Q E s) (hx:HX g A R V s0 a (eval x env)) (hs:Zc1 x=true)
    (k:∀ {av:AV} {v:Value} {H:Zaa} {s:Shared} {Q:AV→Zaa→Prop} {E:String→Zaa→Prop} {b:Bool},VR av v→St g.c R H s.heap→Sm s0 s→Zd5 g.c.P H av ty=some b→Q (.bool b) H→wpAny (model g.c.prog g.c.w) A (call (.builtin "isinstance") [v,tv]) (TQ g R s0 Q) (TE g R s0 E) s) :
    HX g A R V s0 (.isinst a ty) (eval (.Call fe [x,t] [] pos) env):=fun H s Q E S m q=>by
  replace q:wpX g a V (fun x H=>wisi g.c.P ty x Q H) E H:=q
  obtain ⟨h1,h2,h3⟩:=PO.prim _ hg
  refine Zmq (m:=fun fe=>wpAny (model g.c.prog g.c.w) A (eval (.Call fe [x,t] [] pos) env) (TQ g R s0 Q) (TE g R s0 E) s) hn fun id p hn=>?_
  refine wpAny_Call_NameR (Zq1 C fr S hn h1 h2 h3 ?_)
  refine Calls.callWith_builtin (by rw [Zbf hs,Zbf hst];rfl) ?_
  (rw [Zbf hs];dsimp only [Zci];rw [Zbf hst];dsimp only [Zci])
  refine evalArgs_plain (spliced_cons (wpAny_mono (hx H s _ E S m q) (fun v s₁ z=>?_) fun _ _ z=>z))
  obtain ⟨av,H₁,hv,S₁,m₁,q₁⟩:=z
  refine spliced_cons (ht S₁ (spliced_nil ?_))
  unfold wisi at q₁
  cases hb:Zd5 g.c.P H₁ av ty with
  | none=>rw [hb] at q₁;exact q₁.elim
  | some b=>rw [hb] at q₁;exact k hv S₁ m₁ hb q₁
theorem Zp8 {sc:Scope} {n:String} {e:PySem.Expr} (h:Zb2 sc n e=true):Zc1 e=true:=Zca (m:=fun e=>Zc1 e=true) h fun _ _ _=>rfl
theorem Zzh {sc:Scope} {nm:List Str} {ty:String} {fe t x:PySem.Expr} {a:X} {pos:Pos} (C:g.c.Ok mg mb) (PO:PgOk g.c) (fr:Frm R env sc nm V) (hn:Zb2 sc "isinstance" fe=true) (hg:g.c.P.prims.contains "isinstance" = true)
    (ht:g.c.P.prims.contains ty=true) (hn':Zb2 sc ty t=true) (hty:ty = "int"∨ty = "bool"∨ty = "str"∨ty = "list") (hx:HX g A R V s0 a (eval x env)) (hs:Zc1 x=true) :
    HX g A R V s0 (.isinst a ty) (eval (.Call fe [x,t] [] pos) env):=by
  obtain ⟨k1,k2,k3⟩:=PO.prim _ ht
  have hp:Zgv ty = .type ty:=by rcases hty with rfl | rfl | rfl | rfl <;> rfl
  rw [hp] at k3
  refine Zzg C PO fr hn hg (Zp8 hn') (fun S q=>Zq1 C fr S hn' k1 k2 k3 q) hx hs fun hv S m hb q=>?_
  unfold Zd5 at hb
  rw [if_pos hty] at hb
  obtain ⟨k,e1,e2⟩:=Option.map_eq_some_iff.mp hb
  exact Z0l hv S m e1 hty e2 q
theorem Zzb {a i:X} {v sl:PySem.Expr} {pos:Pos} (C:g.c.Ok mg mb) (hns:Zhr sl=true) (ha:HX g A R V s0 a (eval v env)) (hi:HX g A R V s0 i (eval sl env)):HX g A R V s0 (.sub a i) (eval (.Subscript v sl pos) env) :=
  fun H s Q E S m q=>by
  dsimp only [Zah,Zae,Zau,Zbq,Zbb,x_ao,Zap,Za1,Zar,Zav,Za0,Zam,Zak,x_bm,Zbo,Zaw,Zbc,Zcl,Zao,Za7,Za3,Zbg,Za8] at q
  refine Subscript_ (wpAny_mono (ha H s _ E S m q) (fun u s₁ z=>?_) fun _ _ z=>z)
  obtain ⟨au,H₁,hu,S₁,m₁,q₁⟩:=z
  refine wpAny_mono (hi H₁ s₁ _ E S₁ m₁ q₁) (fun w s₂ z=>?_) fun _ _ z=>z
  obtain ⟨aw,H₂,hw,S2,m₂,q₂⟩:=z
  exact Z0g C hu hw S2 m₂ q₂ (by intro o j;cases sl <;> first | rfl | exact Bool.noConfusion hns)
noncomputable def HO (g:Gx) (A:Around) (R:RR) (V:VV) (s0:Shared) (env:Env):Option X→Option PySem.Expr→Prop
  | none,none=>True
  | some x,some e=>HX g A R V s0 x (eval e env)
  | _,_=>False
theorem Zw1 {o:Option X} {oe:Option PySem.Expr} {H:Zaa} {s:Shared} {Q:Option AV→Zaa→Prop} {E:String→Zaa→Prop} (h:HO g A R V s0 env o oe) (S:St g.c R H s.heap) (m:Sm s0 s) (q:wpO g o V Q E H) :
    wpAny (model g.c.prog g.c.w) A (valueOrNone (evalOpt oe env)) (fun v s'=>∃ a H',((a=none∧v = .none)∨∃ x,a=some x∧VR x v)∧St g.c R H' s'.heap∧Sm s0 s'∧Q a H') (TE g R s0 E) s:=by
  cases o with
  | none=>cases oe with
    | none=>exact wpAny_pure ⟨none,H,.inl ⟨rfl,rfl⟩,S,m,q⟩
    | some=>exact h.elim
  | some x=>cases oe with
    | none=>exact h.elim
    | some e =>
      rw [Zbs] at q
      refine wpAny_mono (h H s _ E S m q) (fun v s' z=>?_) fun _ _ z=>z
      obtain ⟨a,H',hv,S',m',q'⟩:=z
      exact ⟨some a,H',.inr ⟨a,rfl,hv⟩,S',m',q'⟩
theorem Ztl {a:X} {lo hi st:Option X} {v:PySem.Expr} {l u t:Option PySem.Expr} {p pos:Pos} (ha:HX g A R V s0 a (eval v env)) (hl:HO g A R V s0 env lo l) (hu:HO g A R V s0 env hi u) (ht:HO g A R V s0 env st t) :
    HX g A R V s0 (.slice a lo hi st) (eval (.Subscript v (.Slice l u t p) pos) env):=fun H s Q E S m q=>by
  dsimp only [Zah,Zae,Zau,Zbq,Zbb,x_ao,Zap,Za1,Zar,Zav,Za0,Zam,Zak,x_bm,Zbo,Zaw,Zbc,Zcl,Zao,Za7,Za3,Zbg,Za8] at q
  refine Subscript_ (wpAny_mono (ha H s _ E S m q) (fun o s₁ z=>?_) fun _ _ z=>z)
  obtain ⟨ao,H₁,ho,S₁,m₁,q₁⟩:=z
  rw [arm_eval_Slice]
  refine wpAny_bind (wpAny_mono (Zw1 hl S₁ m₁ q₁) (fun vl s₂ z=>?_) fun _ _ z=>z)
  obtain ⟨al,H₂,hvl,S2,m₂,q₂⟩:=z
  refine wpAny_bind (wpAny_holding (wpAny_mono (Zw1 hu S2 m₂ q₂) (fun vu s₃ z=>?_) fun _ _ z=>z))
  obtain ⟨au,H₃,hvu,S3,m3,q₃⟩:=z
  refine wpAny_bind (wpAny_holding (wpAny_mono (Zw1 ht S3 m3 q₃) (fun vt s₄ z=>?_) fun _ _ z=>z))
  obtain ⟨at',H₄,hvt,S4,m4,q₄⟩:=z
  unfold newFields
  refine wpAny_newObj_type ?_ (by show (3:Nat)≤sizeLine + 2;exact Nat.le_of_ble_eq_true (by rfl))
  exact Zvq ho hvl hvu hvt S4 m4 q₄
theorem Zqz {a:AV} {v:Value} (h:VR a v):handedIn v=true:=by cases h <;> rfl
theorem Zgd {a b:String} (h:Str.ofString a=Str.ofString b):a=b:=by
  rw [Str.ofString_eq_toList,Str.ofString_eq_toList] at h
  have h1:=congrArg (fun x:Str=>x.cps.toList) h
  dsimp only [List.toList_toArray] at h1
  have h2:=(List.map_inj_right (f:=Char.toNat) fun x y e=>Char.ext (UInt32.toNat_inj.mp e)).mp h1
  exact String.ext h2
theorem Zf9 {n:String} {es:List (String×AV)} {ents:List DictEntry} (h:Zcg es ents):OVR (Zd3 es n) ((ents.find? (·.key.isStr (Str.ofString n))).map (·.val))∧(ents.any (·.refKey))=false:=by
  induction es generalizing ents with
  | nil=>cases ents with
    | nil=>exact ⟨.none,rfl⟩
    | cons=>exact h.elim
  | cons na r ih =>
    cases ents with
    | nil=>exact h.elim
    | cons e q =>
    obtain ⟨n',a⟩:=na
    obtain ⟨⟨t,hk⟩,hv,hr⟩:=h
    obtain ⟨i1,i2⟩:=ih hr
    refine ⟨?_,?_⟩
    · unfold Zd3 at i1 ⊢
      simp only [List.find?_cons,hk,Value.isStr]
      by_cases z:n'=n
      · subst z;simp;exact .some hv
      · have:(Str.ofString n' == Str.ofString n)=false:=by
          apply beq_eq_false_iff_ne.mpr
          intro w
          exact z (Zgd w)
        simp only [this,z];exact i1
    · rw [List.any_cons,i2]
      simp [DictEntry.refKey,hk]
theorem Zk6 {v:PySem.Expr} {at':Str} (hb:Zfu v=true):attributeBase v at' env (eval v env)=eval v env:=by
  cases v with
  | Call f as ks p=>exact Zer (m:=fun f=>attributeBase (.Call f as ks p) at' env (eval (.Call f as ks p) env)=eval (.Call f as ks p) env) (show (Zin f fun _ _ _=>true)=true from hb) fun _ _ _ _=>rfl
  | _=>rfl
inductive Zua (c:Cx) (h:Heap) (p:Addr) (cl:String) (es:List (String×AV)):Prop
  | mk {d ents k} (I:InstAt h p (instObj (c.ca cl) d) (c.ca cl) (some (dictOf ents k))) (a:Zcg es ents):Zua c h p cl es
theorem Zuv {H:Zaa} {h:Heap} {p:Addr} {cl:String} {es:List (String×AV)} (S:St g.c R H h) (e:H p=some (.inst cl es)):Zua g.c h p cl es:=by
  obtain ⟨d,ents,k,x1,x2,x3,x4,_⟩:=S.setAttr e
  exact .mk ⟨x1,rfl,rfl,x2⟩ x3
theorem Zt5 {H:Zaa} {h:Heap} {n:String} {x:AV} {u:Value} {Q:AV→Zaa→Prop} {m:Value→Prop} (S:St g.c R H h) (ho:VR x u) (q:Zr6 g.c.P n x Q H)
    (f:∀ p cl es v,g.c.P.attrs.contains (cl,n)=true→Zua g.c h p cl es→Zd3 es n=some v→Q v H→m (.ref p)):m u:=by
  cases ho with
  | ref p =>
    obtain ⟨oo,e⟩:∃ oo,H p=oo:=⟨_,rfl⟩
    dsimp only [Zr6] at q
    rw [e] at q
    cases oo with
    | none=>exact q.elim
    | some oo=>cases oo with
      | inst cl es =>
        obtain ⟨hat,q⟩:=q
        cases hw:Zd3 es n with
        | none=>rw [hw] at q;exact q.elim
        | some w=>rw [hw] at q;exact f p cl es w hat (Zuv S e) hw q
      | book B =>
        obtain ⟨rfl,hat,q⟩:=q
        obtain ⟨fr,sa,pa,d,ents,k,x1,x2,x3⟩:=S.bookAttr e
        exact f p "Book" _ _ hat (.mk ⟨x1,rfl,rfl,x2⟩ x3) rfl q
      | _=>exact q.elim
  | _=>exact q.elim
theorem Zs6 {H:Zaa} {h:Heap} {n:String} {x:AV} {u:Value} {K:String→Addr→Zaa→Prop} {m:Value→Prop} (S:St g.c R H h) (ho:VR x u) (q:Zr4 g.c.P n x K H)
    (f:∀ p cl es,g.c.P.meths.contains (cl,n)=true→Zua g.c h p cl es→Zd3 es n=none→K (cl ++ "." ++ n) p H→m (.ref p)):m u:=by
  cases ho with
  | ref p =>
    obtain ⟨oo,e⟩:∃ oo,H p=oo:=⟨_,rfl⟩
    dsimp only [Zr4] at q
    rw [e] at q
    cases oo with
    | none=>exact q.elim
    | some oo=>cases oo with
      | inst cl es=>exact f p cl es q.1 (Zuv S e) q.2.1 q.2.2
      | book B =>
        obtain ⟨hat,hno,q⟩:=q
        obtain ⟨fr,sa,pa,d,ents,k,x1,x2,x3⟩:=S.bookAttr e
        refine f p "Book" _ hat (.mk ⟨x1,rfl,rfl,x2⟩ x3) ?_ q
        simp only [bookAttrs,List.contains_cons,List.contains_nil,Bool.or_false,Bool.or_eq_false_iff,beq_eq_false_iff_ne] at hno
        obtain ⟨n1,n2,n3,n4⟩:=hno
        simp [Zd3,n1.symm,n2.symm,n3.symm,n4.symm]
      | _=>exact q.elim
  | _=>exact q.elim
theorem Zwy {a:X} {n:String} {v:PySem.Expr} {pos:Pos} (C:g.c.Ok mg mb) (PO:PgOk g.c) (hb:Zfu v=true) (ha:HX g A R V s0 a (eval v env)):HX g A R V s0 (.attr a n) (eval (.Attribute v (Str.ofString n) pos) env) :=
  fun H s Q E S m q=>by
  replace q:wpX g a V (fun x H=>Zr6 g.c.P n x Q H) E H:=q
  rw [arm_eval_Attribute,Zk6 hb]
  refine wpAny_bind (wpAny_mono (ha H s _ E S m q) (fun o s₁ z=>?_) fun _ _ z=>z)
  obtain ⟨ao,H₁,ho,S₁,m₁,q₁⟩:=z
  refine wpAny_bind (wpAny_standAt (wpAny_bind (wpAny_holding ?_)))
  refine Zt5 (m:=fun o=>wpAny (model g.c.prog g.c.w) A (getAttr o (Str.ofString n) true) (fun a s'=>wpAny (model g.c.prog g.c.w) A (do letTemporaryGo v o a;pure a) (TQ g R s0 Q) (TE g R s0 E) s') (TE g R s0 E) s₁) S₁ ho q₁ fun p cl es w hat O hw q₁=>?_
  obtain ⟨c1,c2,c3,_⟩:=PO.attr cl n hat
  obtain ⟨I,x3⟩:=O
  obtain ⟨f1,f2⟩:=Zf9 (n:=n) x3
  rw [hw] at f1
  generalize hf:(List.find? (fun x:DictEntry=>x.key.isStr (Str.ofString n)) _)=fe at f1
  cases fe with
  | none=>cases f1
  | some en =>
    cases f1 with
    | some hv =>
      refine get_value (v:=en.val) (C.kin.keeps S₁.stays) I (plainGet_of c1).1 (findObj_own c2 c3 rfl ?_) ?_ ?_
      · rw [lookIn_dict];unfold getL;rw [hf]
      · exact Zqz hv
      · exact wpAny_bind (wpAny_letTemporaryGo (wpAny_pure (TQ.toks hv S₁ m₁ q₁)))
end
end Mine
end
section
open PySem PySem.W PyProof.Rows PySem.Spec PySem.SeqAt PySem.Calls
namespace Mine
section
variable {g:Gx} {A:Around} {R:RR} {V:VV} {s0:Shared} {env:Env} {mg mb:Str→Option Value} {e₀:Env} {l₀:List Env}
theorem hxsL {pos:Pos} {xs:List X} {es:List PySem.Expr} (h:Ze7 g A R V s0 env xs es):∀ (H:Zaa) (s:Shared) (Q:List AV→Zaa→Prop) (E:String→Zaa→Prop),St g.c R H s.heap→Sm s0 s→wpXs g xs V Q E H →
    wpAny (model g.c.prog g.c.w) A (spliced (backTo pos (starEach es env))) (fun vs s'=>vs.length=es.length∧TQs g R s0 Q vs s') (TE g R s0 E) s:=by
  induction h with
  | nil=>exact fun H s Q E S m q=>spliced_nil ⟨rfl,[],H,.nil,S,m,q⟩
  | cons hx r ih =>
    intro H s Q E S m q
    dsimp only [Zaf,Zac] at q
    (rw [Zbf hx.2];dsimp only [Zci])
    refine spliced_cons (wpAny_mono (hx.1 H s _ E S m q) (fun v s₁ z=>?_) fun _ _ z=>z)
    obtain ⟨av,H₁,hv,S₁,m₁,q₁⟩:=z
    refine wpAny_mono (ih H₁ s₁ _ E S₁ m₁ q₁) (fun vs s₂ z=>?_) fun _ _ z=>z
    obtain ⟨hl,as,H₂,hvs,S2,m₂,q₂⟩:=z
    exact ⟨congrArg Nat.succ hl,av :: as,H₂,.cons hv hvs,S2,m₂,q₂⟩
theorem Zwt {xs:List X} {es:List PySem.Expr} {pos:Pos} (hx:Ze7 g A R V s0 env xs es) (hl:es.length < 1000):HX g A R V s0 (.list xs) (eval (.List es pos) env):=fun H s Q E S m q=>by
  dsimp only [Zah,Zae,Zau,Zbq,Zbb,x_ao,Zap,Za1,Zar,Zav,Za0,Zam,Zak,x_bm,Zbo,Zaw,Zbc,Zcl,Zao,Za7,Za3,Zbg,Za8] at q
  refine wpAny_List (wpAny_mono (hxsL hx H s _ E S m q) (fun vs s₁ z=>?_) fun _ _ z=>z)
  obtain ⟨hn,as,H₁,hv,S₁,m₁,q₁⟩:=z
  refine ⟨by rw [hn];unfold sizeLine;lia,?_⟩
  obtain ⟨e,S'⟩:=S₁.newObj (o:=.list as) (Nat.le_refl _) (fun _ _ z=>Heap.get?_push_of_some _ z) (by rw [Heap.size_push];lia) (by intro _ _ z;cases z) (fun D=>⟨vs,0,Heap.get?_push_size _ rfl,hv⟩)
  exact ⟨_,_,.ref _,S',m₁.heap _,q₁ _ e⟩
theorem Ztk {xs:List X} {es:List PySem.Expr} {k:Nat} {pos:Pos} (hx:Ze7 g A R V s0 env xs es) (hl:es.length < 1000):HX g A R V s0 (.tuple xs) (eval (.Tuple es k pos) env):=fun H s Q E S m q=>by
  dsimp only [Zah,Zae,Zau,Zbq,Zbb,x_ao,Zap,Za1,Zar,Zav,Za0,Zam,Zak,x_bm,Zbo,Zaw,Zbc,Zcl,Zao,Za7,Za3,Zbg,Za8] at q
  refine wpAny_Tuple (wpAny_mono (hxsL hx H s _ E S m q) (fun vs s₁ z=>?_) fun _ _ z=>z)
  obtain ⟨hn,as,H₁,hv,S₁,m₁,q₁⟩:=z
  refine ⟨by rw [hn];unfold sizeLine;lia,?_⟩
  obtain ⟨e,S'⟩:=S₁.newObj (o:=.tuple as) (Nat.le_refl _) (fun _ _ z=>Heap.get?_push_of_some _ z) (by rw [Heap.size_push];lia) (by intro _ _ z;cases z) (fun D=>⟨vs,0,Heap.get?_push_size _ rfl,hv⟩)
  exact ⟨_,_,.ref _,S',m₁.heap _,q₁ _ e⟩
theorem Ztn {pos:Pos}:HX g A R V s0 (.dict [] []) (eval (.Dict [] [] pos) env):=fun H s Q E S m q=>by
  dsimp only [Zah,Zae,Zau,Zbq,Zbb,x_ao,Zap,Za1,Zar,Zav,Za0,Zam,Zak,x_bm,Zbo,Zaw,Zbc,Zcl,Zao,Za7,Za3,Zbg,Za8] at q
  refine wpAny_Dict_empty ?_
  obtain ⟨e,S'⟩:=S.newObj (o:=.dict 0 []) (h':=s.heap.push { cls:=.type "dict",data:=.dict #[] }) (Nat.le_refl _) (fun _ _ z=>Heap.get?_push_of_some _ z) (by rw [Heap.size_push];lia) (by intro _ _ z;cases z) (fun D=>⟨[],⟨_,#[],Heap.get?_push_size _ rfl,⟨rfl,rfl,rfl⟩,rfl,fun _ h=>by simp at h,.nil,List.nodup_nil⟩,.nil⟩)
  · exact ⟨_,_,.ref _,S',m.heap _,q _ e⟩
theorem Zjn {pos:Pos}:∀ {xs:List X} {es:List PySem.Expr},Ze7 g A R V s0 env xs es→(backTo pos (starEach es env)).all (fun x=>!x.1)=true
  | _,_,.nil=>rfl
  | _,_,.cons hx r=>by
    (rw [Zbf hx.2];dsimp only [Zci];rw [List.all_cons,Zjn r]);rfl
theorem Zke {M:Model} {E:Value→Shared→Prop} {s:Shared} {o:PySem.Expr} {name:Str} {apos pos:Pos} {args:List PySem.Expr} {Q:Value→Shared→Prop} (hb:Zfu o=true) (hall:(backTo pos (starEach args env)).all (fun x=>!x.1)=true)
    (hlen:args.length < 29) (hline:(apos.endLine == pos.line)=true)
    (h:wpAny M A (eval o env) (fun ov s₁=>∀ pl,wpAny M A (getMethod ov name pl) (fun fx s₂=>wpAny M A (callWith pos fx.1 fx.2 (backTo pos (starEach args env)) []) Q E s₂) E s₁) E s) :
    wpAny M A (eval (.Call (.Attribute o name apos) args [] pos) env) Q E s:=by
  rw [arm_eval_Call,Zk6 hb]
  refine wpAny_bind (wpAny_mono h (fun ov s₁ h₁=>?_) fun _ _ e=>e)
  refine wpAny_bind (wpAny_standAt ?_)
  have hform:methodCallForm (args.length + ([]:List Keyword).length) (backTo pos (starEach args env)) (backToKw pos (keywordEach [] env))=true:=by
    unfold methodCallForm
    rw [hall]
    simp only [Bool.true_and]
    show (true && decide (args.length + 0 + 0 < 30))=true
    simp;lia
  have hpos:methodCallPos true o env apos pos=pure pos:=by unfold methodCallPos;simp [hline]
  unfold methodCall
  rw [hform]
  refine wpAny_bind (wpAny_holding (wpAny_mono (h₁ _) (fun fx s₂ h₂=>?_) fun _ _ e=>e))
  exact wpAny_bind (wpAny_of_eq hpos h₂)
theorem Zvt {p:Addr} {v:AV} {u:Value} {xs:List AV} {H:Zaa} {s:Shared} {Q:AV→Zaa→Prop} {E:Value→Shared→Prop} {d:PyData} {ds:List PyData} {k:Nat} (hv:VR v u) (S:St g.c R H s.heap) (m:Sm s0 s) (e:H p=some (.list xs))
    (h1:RD H v d) (h2:RDs H xs ds) (h3:okD d) (h4:Zd8 ds=true) (hz:xs.length < 2 ^ 62) (un:A.units + 1 + 64 < cLine) (h5:ds.findIdx? (fun y=>PyData.eqv y d)=some k) (q:Q (.int k) H) :
    wpAny (model g.c.prog g.c.w) A (call (.builtin "list.index") [.ref p,u]) (TQ g R s0 Q) E s:=by
  obtain ⟨⟨as,r1⟩,c1⟩:=Zen S h1 hv
  obtain ⟨ws,n,k1,k2,k3⟩:=Za9 S e
  obtain ⟨⟨bs,r2⟩,c2⟩:=Zlg S h2 k2
  have dd:d.depth≤64:=h3.2
  have cd:=c1 h3.1
  have cs:=c2 h4
  have hl:=RDs.len h2
  have hl2:=k2.length
  have hkl:k < ds.length:=by
    have:=List.findIdx?_eq_some_iff_findIdx_eq.mp h5
    exact this.1
  have mp:=readsAll_map ds _ _ cs r2
  have hget:∀ (j:Nat) (h1:j < ws.length) (h2:j < ds.length),readOf s.heap ws[j]=ds[j]:=by
    intro j h1 h2
    have:(ws.map (readOf s.heap))[j]'(by simpa using h1)=ds[j]:=by simp only [mp]
    simpa using this
  have hf:=List.findIdx?_eq_some_iff_getElem.mp h5
  obtain ⟨hk,hyes,hno⟩:=hf
  refine call_meets PySem.F.slot_list_index ⟨_,k1,rfl⟩ PySem.F.entry_list_index (PySem.F.args_list_index_2 _ _)
    (list_indexAt p ws.toArray n none #[] u (fun y=>PyData.eqv (readOf s.heap y) d) k (by simp;lia) (by lia) ?_ ?_) ⟨k1,items_eqAt (by simpa using r2) r1 cs cd (by lia),TQ.toks (.int _ _) S m q⟩
  · simp only [List.getElem_toArray]
    rw [hget k (by lia) hk];exact hyes
  · intro j hj hlt
    simp only [List.getElem_toArray]
    rw [hget j (by simpa using hj) (by lia)]
    simpa using hno j hlt
theorem Zws {a:X} {mt:String} {xs:List X} {o:PySem.Expr} {args:List PySem.Expr} {apos pos:Pos} (C:g.c.Ok mg mb) (PO:PgOk g.c) (ev:Ev g A R e₀ l₀) (hb:Zfu o=true) (hline:(apos.endLine == pos.line)=true) (hlen:args.length < 29)
    (ha:HX g A R V s0 a (eval o env)) (hx:Ze7 g A R V s0 env xs args):HX g A R V s0 (.meth a mt xs) (eval (.Call (.Attribute o (Str.ofString mt) apos) args [] pos) env):=fun H s Q E S m q=>by
  replace q:wpX g a V (fun x H=>Zr4 g.c.P mt x (fun f p H=>wpXs g xs V (fun vs H=>CallOK g.c g.n g.md f (.ref p :: vs) Q E H) E H) H) E H:=q
  refine Zke hb (Zjn hx) hlen hline (wpAny_mono (ha H s _ E S m q) (fun ov s₁ z=>?_) fun _ _ z=>z)
  obtain ⟨ao,H₁,ho,S₁,m₁,q₁⟩:=z
  intro pl
  refine Zs6 (m:=fun ov=>wpAny _ A (getMethod ov (Str.ofString mt) pl) _ (TE g R s0 E) s₁) S₁ ho q₁ fun p cl es hmm O hno q₁=>?_
  obtain ⟨c1,c2,c3,c4⟩:=PO.meth cl mt hmm
  obtain ⟨I,x3⟩:=O
  obtain ⟨f1,f2⟩:=Zf9 (n:=mt) x3
  rw [hno] at f1
  generalize hf:(List.find? (fun x:DictEntry=>x.key.isStr (Str.ofString mt)) _)=fe at f1
  cases fe with
  | some=>cases f1
  | none =>
  refine method_fn (C.kin.keeps S₁.stays) I (plainGet_of c1).1 (plainGet_of c1).2 c2 (beq_iff_eq.mp c3) ?_ ?_
  · show (lookIn (Str.ofString mt) (dictOf _ _)).map _=_
    rw [lookIn_dict];unfold getL;rw [hf,f2];rfl
  · exact Zrf C c4 hx S₁ m₁ q₁ fun as vs H' s' k1 k2 k3 k4=>Zk0 ev (.cons (.ref p) k1) k2 k3 k4
theorem Zvv {p:Addr} {xs:List AV} {H:Zaa} {s:Shared} {Q:AV→Zaa→Prop} {E:Value→Shared→Prop} (S:St g.c R H s.heap) (m:Sm s0 s) (e:H p=some (.list xs)) (hz:xs.length≤sizeLine) (q:Q .none (up H p (.list []))) :
    wpAny (model g.c.prog g.c.w) A (call (.builtin "list.clear") [.ref p]) (TQ g R s0 Q) E s:=by
  obtain ⟨vs,n,k1,k2,k3⟩:=Za9 S e
  refine call_meets PySem.F.slot_list_clear ⟨_,k1,rfl⟩ PySem.F.entry_list_clear (PySem.F.args_list_clear_1 _) (AutoSeq1.list_clear_list_0 p vs.toArray n (by simp only [List.size_toArray];rw [← k2.length];exact hz)) ⟨k1,?_⟩
  refine ⟨.none,_,.none,S.setObj (o':=.list []) e (by intro _ _ z;cases z) (Heap.SameBut.update ..) (fun D=>⟨[],_,Heap.get?_update_self (Obj.mapSeq fun _=>(#[]:Array Value)) k1 rfl,.nil⟩),m.step _ _,q⟩
set_option tactic.hygienic true in
theorem DRs.without {es:List (Str×AV)} {kvs:List (Str×Value)} (h:DRs es kvs) (k:Str):DRs (es.filter fun e=>e.1≠k) (PySem.without kvs k):=by
  unfold PySem.without
  induction h with
  | nil=>exact .nil
  | cons h1 h2 _ ih =>
    rename_i k' a v as vs _
    by_cases z:k'=k
    · simpa [z] using ih
    · simpa [z] using DRs.cons h1 h2 ih
theorem Z0j {p:Addr} {k:Str} {t:Tok} {es:List (Str×AV)} {ep:Nat} {v:AV} {H:Zaa} {s:Shared} {Q:AV→Zaa→Prop} {E:Value→Shared→Prop} (S:St g.c R H s.heap) (m:Sm s0 s) (e:H p=some (.dict ep es)) (hz:es.length≤sizeLine)
    (hv:Zbx es k=some v) (q:∀ ep,Q v (up H p (.dict ep (es.filter fun e=>e.1≠k)))) :
    wpAny (model g.c.prog g.c.w) A (call (.builtin "dict.pop") [.ref p,.str k t]) (TQ g R s0 Q) E s:=by
  obtain ⟨kvs,hd,hr⟩:=Zcp S e
  have hlk:=hr.look k
  rw [hv] at hlk
  generalize hw:valueAt kvs k=w at hlk
  cases hlk with
  | some hvr =>
  refine call_meetsIn PySem.F.slot_dict_pop hd.dictOf.typeIs PySem.F.entry_dict_pop (PySem.F.args_dict_pop_2 _ _) (meets_dict_pop_there (strKind g.c.prog g.c.w) p (strKind_is _ _ k t) [] (.inl rfl) rfl) ⟨kvs,_,hd.dictOf,by rw [hr.length];exact hz,hw,fun h' hd' hs=>?_⟩
  obtain ⟨ep',hat⟩:=hd'.dictAt
  exact ⟨v,_,hvr,S.setObj (o':=.dict ep' _) e (by intro _ _ z;cases z) hs fun D=>⟨_,hat,hr.without k⟩,m.step _ _,q ep'⟩
theorem Zsk {p:Addr} {es:List (Str×AV)} {ep:Nat} {H:Zaa} {s:Shared} {Q:AV→Zaa→Prop} {E:Value→Shared→Prop} (C:g.c.Ok mg mb) (S:St g.c R H s.heap) (m:Sm s0 s) (e:H p=some (.dict ep es)) (q:∀ z,H z=none→Q (.ref z) (up H z (.vals p))) :
    wpAny (model g.c.prog g.c.w) A (call (.builtin "dict.values") [.ref p]) (TQ g R s0 Q) E s:=by
  obtain ⟨kvs,hd,hr⟩:=Zcp S e
  refine call_meetsIn PySem.F.slot_dict_values hd.dictOf.typeIs PySem.F.entry_dict_values (PySem.F.args_dict_values_1 _) (meets_dict_values (strKind g.c.prog g.c.w) p (Zqy C S e)) ⟨⟨kvs,hd.dictOf⟩,?_⟩
  obtain ⟨z,S'⟩:=S.newObj (o:=.vals p) (Nat.le_refl _) (fun _ _ z=>Heap.get?_push_of_some _ z) (by rw [Heap.size_push];exact Nat.le_succ _) (by intro _ _ z;cases z) (fun D=>Heap.get?_push_size _ rfl)
  exact ⟨_,_,.ref _,S',m.heap _,q _ z⟩
noncomputable def BM.id:BM→String
  | .append=>"list.append" | .index=>"list.index" | .count=>"list.count" | .clear=>"list.clear" | .values=>"dict.values" | .pop=>"dict.pop" | .upper=>"str.upper"
theorem s_bm {o:AV} {u:Value} {bm:BM} {as:List AV} {vs:List Value} {H:Zaa} {s:Shared} {Q:AV→Zaa→Prop} {E:Value→Shared→Prop} (C:g.c.Ok mg mb) (un:A.units + 1 + 64 < cLine) (ho:VR o u) (hv:VRs as vs) (S:St g.c R H s.heap) (m:Sm s0 s) (q:wbm o bm as Q H) :
    wpAny (model g.c.prog g.c.w) A (call (.builtin bm.id) (u :: vs)) (TQ g R s0 Q) E s:=by
  cases bm with
  | append=>exact Zdq (m:=fun vs=>wpAny _ A (call (.builtin "list.append") (u :: vs)) (TQ g R s0 Q) E s) hv q fun a v h q=>Zl9 (m:=fun u=>wpAny _ A (call (.builtin "list.append") [u,v]) (TQ g R s0 Q) E s) ho q fun p xs e q=>Zsl h S m e q.1 q.2
  | index =>
    refine Zdq (m:=fun vs=>wpAny _ A (call (.builtin "list.index") (u :: vs)) (TQ g R s0 Q) E s) hv q fun a v h q=>Zl9 (m:=fun u=>wpAny _ A (call (.builtin "list.index") [u,v]) (TQ g R s0 Q) E s) ho q fun p xs e q=>?_
    obtain ⟨z1,d,ds,z2,z3,z4,z5,k,z6,z7⟩:=q
    exact Zvt h S m e z2 z3 z4 z5 z1 un z6 z7
  | clear=>cases hv with
    | nil=>exact Zl9 (m:=fun u=>wpAny _ A (call (.builtin "list.clear") [u]) (TQ g R s0 Q) E s) ho q fun p xs e q=>Zvv S m e q.1 q.2
    | cons=>exact q.elim
  | values=>cases hv with
    | nil=>exact Zrr (m:=fun u=>wpAny _ A (call (.builtin "dict.values") [u]) (TQ g R s0 Q) E s) ho q fun p ep es e q=>Zsk C S m e q
    | cons=>exact q.elim
  | pop =>
    refine Zdq (m:=fun vs=>wpAny _ A (call (.builtin "dict.pop") (u :: vs)) (TQ g R s0 Q) E s) hv q fun a v h q=>?_
    cases h with
    | str k t hk =>
      refine Zrr (m:=fun u=>wpAny _ A (call (.builtin "dict.pop") [u,.str k t]) (TQ g R s0 Q) E s) ho q fun p ep es e q=>?_
      obtain ⟨z1,v,z2,z3⟩:=q
      exact Z0j S m e z1 z2 z3
    | _=>exact q.elim
  | _=>exact q.elim
theorem Zx1 {o:AV} {u:Value} {bm:BM} {pl:Sem Bool} {H:Zaa} {s:Shared} {Q:Value×List Value→Shared→Prop} {E:Value→Shared→Prop} (ho:VR o u) (S:St g.c R H s.heap) (hon:bmOn bm o H) (q:Q (.builtin bm.id,[u]) s) :
    wpAny (model g.c.prog g.c.w) A (getMethod u (Str.ofString bm.str) pl) Q E s:=by
  cases ho with
  | str x t hx=>cases hon;exact getMethod_builtin (typeIs_str _ _ _) PySem.F.plainAttrs_str PySem.F.slot_str_upper PySem.F.type_str_upper (fun a h=>by cases h) q
  | ref p =>
    obtain ⟨oo,e⟩:∃ oo,H p=oo:=⟨_,rfl⟩
    dsimp only [bmOn] at hon
    rw [e] at hon
    cases oo with
    | none=>exact hon.elim
    | some oo =>
    cases oo with
    | list xs =>
      obtain ⟨ws,n,k1,k2,k3⟩:=Za9 S e
      have k0:∀ a,Value.ref p = .ref a→∃ o,s.heap.get? a=some o∧o.dict=none:=fun a h=>by cases h;exact ⟨_,k1,rfl⟩
      rcases hon with rfl | rfl | rfl | rfl
      · exact getMethod_builtin ⟨_,k1,rfl⟩ PySem.F.plainAttrs_list PySem.F.slot_list_append PySem.F.type_list_append k0 q
      · exact getMethod_builtin ⟨_,k1,rfl⟩ PySem.F.plainAttrs_list PySem.F.slot_list_clear PySem.F.type_list_clear k0 q
      · exact getMethod_builtin ⟨_,k1,rfl⟩ PySem.F.plainAttrs_list PySem.F.slot_list_index PySem.F.type_list_index k0 q
      · exact getMethod_builtin ⟨_,k1,rfl⟩ PySem.F.plainAttrs_list PySem.F.slot_list_count PySem.F.type_list_count k0 q
    | dict ep es =>
      obtain ⟨kvs,⟨od,es,k1,kc,_⟩,hr⟩:=Zcp S e
      have k0:∀ a,Value.ref p = .ref a→∃ o,s.heap.get? a=some o∧o.dict=none:=fun a h=>by cases h;exact ⟨_,k1,kc.2.1⟩
      rcases hon with rfl | rfl
      · exact getMethod_builtin ⟨_,k1,kc.1⟩ PySem.F.plainAttrs_dict PySem.F.slot_dict_values PySem.F.type_dict_values k0 q
      · exact getMethod_builtin ⟨_,k1,kc.1⟩ PySem.F.plainAttrs_dict PySem.F.slot_dict_pop PySem.F.type_dict_pop k0 q
    | _=>exact hon.elim
  | _=>exact hon.elim
theorem Z0w {a:X} {bm:BM} {xs:List X} {o:PySem.Expr} {args:List PySem.Expr} {apos pos:Pos} (C:g.c.Ok mg mb) (ev:Ev g A R e₀ l₀) (hb:Zfu o=true) (hline:(apos.endLine == pos.line)=true) (hlen:args.length < 29)
    (ha:HX g A R V s0 a (eval o env)) (hx:Ze7 g A R V s0 env xs args):HX g A R V s0 (.bm a bm xs) (eval (.Call (.Attribute o (Str.ofString bm.str) apos) args [] pos) env):=fun H s Q E S m q=>by
  dsimp only [Zah,Zae,Zau,Zbq,Zbb,x_ao,Zap,Za1,Zar,Zav,Za0,Zam,Zak,x_bm,Zbo,Zaw,Zbc,Zcl,Zao,Za7,Za3,Zbg,Za8] at q
  refine Zke hb (Zjn hx) hlen hline (wpAny_mono (ha H s _ E S m q) (fun ov s₁ z=>?_) fun _ _ z=>z)
  obtain ⟨ao,H₁,ho,S₁,m₁,hon,q₁⟩:=z
  intro pl
  refine Zx1 ho S₁ hon ?_
  exact Zrg (.inl ⟨_,rfl⟩) hx S₁ m₁ q₁ fun as vs H' s' k1 k2 k3 k4=>s_bm C (by have:=ev.aok.units;lia) ho k1 k2 k3 k4
theorem Zzd {sc:Scope} {nm:List Str} {cl:String} {fe:PySem.Expr} {args:List PySem.Expr} {xs:List X} {pos:Pos} (C:g.c.Ok mg mb) (PO:PgOk g.c) (ev:Ev g A R e₀ l₀) (fr:Frm R env sc nm V) (hn:Zb2 sc cl fe=true)
    (hg:g.c.P.classes.contains cl=true) (hx:Ze7 g A R V s0 env xs args):HX g A R V s0 (.new cl xs) (eval (.Call fe args [] pos) env):=fun H s Q E S m q=>by
  dsimp only [Zah,Zae,Zau,Zbq,Zbb,x_ao,Zap,Za1,Zar,Zav,Za0,Zam,Zak,x_bm,Zbo,Zaw,Zbc,Zcl,Zao,Za7,Za3,Zbg,Za8] at q
  obtain ⟨h1,h2,h3,h4,h5⟩:=PO.cls cl hg
  obtain ⟨id,p,rfl⟩:=Zd2 hn
  refine wpAny_Call_NameR (Zkk C fr S hn h1 ?_)
  refine Zrf C h2 hx S m q fun as vs H' s' k1 k2 k3 k4=>?_
  obtain ⟨hh,gg,dd,t,os⟩:=s'
  have X:=C.kin.keeps k2.stays
  obtain ⟨e,S'⟩:=k2.newInst (cl:=cl)
  refine wpAny_call (make_core (makes_of X h3) (looks_findIn X h4) (fun self=>bind_fn X self (beq_iff_eq.mp h5)) (.inl rfl) ?_)
  refine k4 _ e _ (e₀ :: l₀) R _ _ _ ⟨?_,?_,?_,?_⟩ ev.stk S' (.cons (.ref _) k1) ?_ ?_
  · exact ev.aok.frames
  · have:=ev.aok.depth
    have hw:(Code.builtin "type.__call__" ⟨.ref (g.c.ca cl) :: vs,[]⟩).weight=1:=rfl
    show A.depth + (Code.builtin "type.__call__" ⟨.ref (g.c.ca cl) :: vs,[]⟩).weight + 110 + 0 + 8 * g.n < recursionLimit
    lia
  · have:=ev.aok.units
    have hw:(Code.builtin "type.__call__" ⟨.ref (g.c.ca cl) :: vs,[]⟩).cUnits=1:=rfl
    show A.units + (Code.builtin "type.__call__" ⟨.ref (g.c.ca cl) :: vs,[]⟩).cUnits + 100 + 10 * 0 + 60 * g.n < cLine
    lia
  · exact ev.aok.hand
  · rintro av v s' H' z1 z2 z3 ⟨rfl,z4⟩
    cases z1
    exact ⟨rfl,_,_,.ref _,z2,k3.trans ((Sm.mk' _ _ _).trans z3),z4⟩
  · exact fun e cl s' H' z1 z2 z3=>⟨e,cl,H',rfl,z1,k3.trans ((Sm.mk' _ _ _).trans z2),z3⟩
end
end Mine
end
section
open PySem PySem.W PyProof.Rows PySem.Spec PySem.SeqAt PySem.Calls
namespace Mine
section
variable {prog:Program} {w:World} {A:Around} {E:Value→Shared→Prop} {s:Shared} {K:Frag} {x C D:Addr}
open Builtin Builtin.ObjectAttr Builtin.Getset_descriptor in
end
section
variable {g:Gx} {A:Around} {R:RR} {V:VV} {s0:Shared} {env:Env} {mg mb:Str→Option Value} {e₀:Env} {l₀:List Env}
theorem Zqw {sc:Scope} {nm:List Str} {ty:String} {fe t x:PySem.Expr} {a:X} {pos:Pos} (C:g.c.Ok mg mb) (PO:PgOk g.c) (fr:Frm R env sc nm V) (hn:Zb2 sc "isinstance" fe=true) (hg:g.c.P.prims.contains "isinstance" = true)
    (ht:(g.c.P.prims.contains ty && ["int","bool","str","list"].contains ty)=true) (hn':Zb2 sc ty t=true) (hx:HX g A R V s0 a (eval x env)) (hs:Zc1 x=true) :
    HX g A R V s0 (.isinst a ty) (eval (.Call fe [x,t] [] pos) env):=
  Zzh C PO fr hn hg (and2 ht).1 hn' (by have:=List.contains_iff_mem.mp (and2 ht).2;simpa only [List.mem_cons,List.not_mem_nil,or_false] using this) hx hs
end
end Mine
end
section
open PySem PySem.W PyProof.Rows PySem.Spec PySem.SeqAt PySem.Calls
namespace Mine
section
variable {c:Cx} {R:RR} {H:Zaa} {h h':Heap}
theorem St1.noted (S:St1 c R H h) {ls:List Addr}
    (hls:∀ a∈ls,(∃ m,R a=some (.ns m))∨(R a=none∧H a=none∧c.base.get? a=none∧∃ o vs,h.get? a=some o∧o.data = .fields vs))
    (k:∀ b o,h.get? b=some o→b ∉ ls→h'.get? b=some o) (sl:∀ b o,h.get? b=some o→(∀ vs,o.data≠.fields vs)→∃ t,h'.get? b=some { o with slots:=t })
    (hsz:c.base.objs.size≤h'.objs.size):St1 c R H h':=by
  obtain ⟨s1,s2,s3,D,s4⟩:=S
  have hb:∀ b o,c.base.get? b=some o→b ∉ ls:=fun b o e hm=>by
    rcases hls b hm with ⟨m,q⟩ | ⟨_,_,q,_⟩
    · have:=leN (s3 b _ q).1;have:=lts e;omega
    · rw [q] at e;cases e
  have hH:∀ a o,H a=some o→a ∉ ls:=fun a o e hm=>by
    rcases hls a hm with ⟨m,q⟩ | ⟨_,q,_⟩
    · have:=(s4.above a o e).2;rw [q] at this;cases this
    · rw [q] at e;cases e
  refine ⟨fun b o e=>k b o (s1 b o e) (hb b o e),hsz,fun b r e=>⟨(s3 b r e).1,?_⟩,D,⟨fun a o e=>?_,s4.above,s4.dict,s4.inj⟩⟩
  · by_cases q:b∈ls
    · rcases hls b q with ⟨m,z⟩ | ⟨z,_⟩
      · rw [e] at z;cases z
        obtain ⟨o,es,ep,ho,hd,rr⟩:=(s3 b _ e).2
        obtain ⟨t,ht⟩:=sl b o ho (fun vs w=>by rw [hd] at w;cases w)
        exact ⟨_,es,ep,ht,hd,rr⟩
      · rw [e] at z;cases z
    · exact (s3 b r e).2.agree fun ob z=>k b ob z q
  · refine (s4.rep a o e).agree (fun ob z=>k a ob z (hH a o e)) fun cl es eo=>⟨rfl,fun ob z=>?_⟩
    subst eo
    refine k _ ob z fun hm=>?_
    obtain ⟨_,y2,y3⟩:=s4.dict a cl es e
    rcases hls _ hm with ⟨m,q⟩ | ⟨_,_,_,o',vs,q1,q2⟩
    · rw [q] at y2;cases y2
    · obtain ⟨_,ents,n,w,_⟩:=s4.rep a _ e
      rw [w] at q1;cases q1;cases q2
theorem St1.frames (S:St1 c R H h) {l:List Env} (hs:Stk R l) {B:Heap} (hB:∀ e∈l,B.get? e.locals=none):h.FunFrames B l:=by
  induction l with
  | nil=>trivial
  | cons e l ih =>
    have F:=hs e (.head _)
    obtain ⟨m,hm⟩:=F.ns
    obtain ⟨o,es,ep,ho,hd,_⟩:=(S.res _ _ hm).2
    exact ⟨by rw [F.kind];simp,⟨e.locals,o,F.frame,hB e (.head _),ho,fun vs w=>by rw [hd] at w;cases w⟩,ih (fun x hx=>hs x (.tail _ hx)) fun x hx=>hB x (.tail _ hx)⟩
noncomputable def FlOk (env:Env) (fl:Value):Prop:=fl = .ellipsis∨fl = .none∨fl=rawInt env.locals
theorem Zks {e:Addr} {cl:String} {env:Env} {outer:List Env} {ls:List Addr} {a0 fl:Value} (X:St1 c R H h) (re:R e=none) (he:H e=none) (be:c.base.get? e=none) (hs:Stk R (env :: outer))
    (hls:∀ a∈ls,(∃ m,R a=some (.ns m))∨(R a=none∧H a=none∧c.base.get? a=none∧∃ o vs,h.get? a=some o∧o.data = .fields vs))
    (N:Heap.NotedW (hideAll h ls) (env :: outer) e (.ref (c.ca cl)) a0 fl h h') (hfl:fl≠.ellipsis) (kn:(c.P.excs.lookup cl).isSome=true):ExcSt1 c R H e cl fl h':=by
  have n1:=N.1
  have n2:=N.2.1
  have n3:=N.2.2.1
  have n4:=N.2.2.2
  have F:=hs env (.head _)
  obtain ⟨m,hm⟩:=F.ns
  obtain ⟨o,es,ep,ho,hd,_⟩:=(X.res _ _ hm).2
  obtain ⟨t,ht⟩:=n4 _ o ho (fun vs w=>by rw [hd] at w;cases w)
  have hsz:c.base.objs.size≤h'.objs.size:=by
    have h1:=leN (X.res _ _ hm).1;have h2:=lts ht;omega
  have S':=X.noted hls (fun b o e q=>n1 b o (hideAll_get _ e q)) n4 hsz
  obtain ⟨oe,vs,T,oT,ts,h1,⟨h2,h3⟩,h4,h5,h6,h7,h8,h9,h10⟩:=n3
  have out:∀ b o,h.get? b=some o→b ∉ ls→b≠T:=fun b o e q z=>by
    have:=hideAll_get ls e q
    rw [z,h6] at this;cases this
  refine ⟨S',re,he,be,.traced h1 h2 h4 h3 h5 h7 ?_ ?_ ?_ h8 h9 h10 hfl,kn⟩
  · cases q:R T with
    | none=>rfl
    | some r =>
      exfalso
      obtain ⟨ob,hob⟩:=(X.res _ _ q).2.there
      by_cases z:T∈ls
      · rcases hls T z with ⟨m',q'⟩ | ⟨q',_⟩
        · obtain ⟨o',es',ep',ho',hd',_⟩:=(S'.res _ _ q').2
          rw [h8] at ho';cases ho';rw [h9] at hd';cases hd'
        · rw [q] at q';cases q'
      · exact out T ob hob z rfl
  · cases q:H T with
    | none=>rfl
    | some r =>
      exfalso
      obtain ⟨D,s4⟩:=X.rep
      obtain ⟨ob,hob⟩:=(s4.rep _ _ q).there
      by_cases z:T∈ls
      · rcases hls T z with ⟨m',q'⟩ | ⟨_,q',_⟩
        · have:=(s4.above _ _ q).2;rw [q'] at this;cases this
        · rw [q] at q';cases q'
      · exact out T ob hob z rfl
  · cases q:c.base.get? T with
    | none=>rfl
    | some ob =>
      exfalso
      by_cases z:T∈ls
      · rcases hls T z with ⟨m',q'⟩ | ⟨_,_,q',_⟩
        · have:=leN (X.res _ _ q').1;have:=lts q;omega
        · rw [q] at q';cases q'
      · exact out T ob (X.stays _ _ q) z rfl
set_option tactic.hygienic true in
theorem Zkt {M:Model} {A:Around} {E:Value→Shared→Prop} {s:Shared} {e:Addr} {cl:String} {fl:Value} {env:Env} {outer:List Env} {Q:Unit→Shared→Prop} (hfr:A.frames=some (env :: outer)) (hs:Stk R (env :: outer))
    (X:ExcSt1 c R H e cl fl s.heap) (hfl:FlOk env fl) (q:∀ h',ExcSt1 c R H e cl (rawInt env.locals) h'→Q () { s with heap:=h' }):wpAny M A (noteFrame (.ref e) env) Q E s:=by
  obtain ⟨st,re,he,be,ob,kn⟩:=X
  have F:=hs env (.head _)
  cases ob with
  | fresh h1 =>
    have hls:∀ a∈e :: (env :: outer).map (·.locals),(∃ m,R a=some (.ns m))∨(R a=none∧H a=none∧c.base.get? a=none∧∃ o vs,s.heap.get? a=some o∧o.data = .fields vs):=by
      intro a ha
      rcases List.mem_cons.mp ha with rfl | ha
      · exact .inr ⟨re,he,be,_,_,h1,rfl⟩
      · obtain ⟨x,hx,rfl⟩:=List.mem_map.mp ha
        exact .inl (hs x hx).ns
    unfold noteFrame
    simp only [F.frame]
    refine wpAny_bind (wpAny_field h1 rfl (x:=.none) rfl ?_)
    rw [if_neg (by decide)]
    refine wpAny_entryW (base:=hideAll s.heap (e :: (env :: outer).map (·.locals))) (a0:=_) hfr (st.frames hs fun x hx=>hideAll_none _ (List.mem_cons_of_mem _ (List.mem_map_of_mem hx))) F.frame h1 (fun b o z=>of_hideAll _ z) (hideAll_none _ (List.mem_cons_self ..)) rfl (by simp) rfl fun h' N=>q h' ?_
    exact Zks st re he be hs hls N (by simp [rawInt]) kn
  | traced h1 h2 h3 h4 h5 h6 h7 h8 h9 h10 h11 h12 h13 =>
    rename_i oe vs T oT ts a0
    rcases hfl with rfl | rfl | rfl
    · exact absurd rfl h13
    · have hls:∀ a∈e :: T :: (env :: outer).map (·.locals),(∃ m,R a=some (.ns m))∨(R a=none∧H a=none∧c.base.get? a=none∧∃ o vs,s.heap.get? a=some o∧o.data = .fields vs):=by
        intro a ha
        rcases List.mem_cons.mp ha with rfl | ha
        · exact .inr ⟨re,he,be,_,_,h1,h3⟩
        · rcases List.mem_cons.mp ha with rfl | ha
          · exact .inr ⟨h7,h8,h9,_,_,h10,h11⟩
          · obtain ⟨x,hx,rfl⟩:=List.mem_map.mp ha
            exact .inl (hs x hx).ns
      refine wpAny_noteFrame_onW (base:=hideAll s.heap (e :: T :: (env :: outer).map (·.locals))) (cls:=.ref (c.ca cl)) (a0:=a0) hfr (st.frames hs fun x hx=>hideAll_none _ (List.mem_cons_of_mem _ (List.mem_cons_of_mem _ (List.mem_map_of_mem hx)))) F.frame
        ⟨oe,vs,T,oT,ts,h1,⟨h2,h4⟩,h3,h5,hideAll_none _ (List.mem_cons_of_mem _ (List.mem_cons_self ..)),h6,h10,h11,h12⟩ (fun b o z=>of_hideAll _ z) (hideAll_none _ (List.mem_cons_self ..)) fun h' N=>q h' ?_
      exact Zks st re he be hs hls N (by simp [rawInt]) kn
    · refine wpAny_noteFrame_againW (base:=hideAll s.heap [T]) (cls:=.ref (c.ca cl)) (a0:=a0) F.frame ⟨oe,vs,T,oT,ts,h1,⟨h2,h4⟩,h3,h5,hideAll_none _ (List.mem_cons_self ..),h6,h10,h11,h12⟩ ?_
      have:=q s.heap ⟨st,re,he,be,.traced h1 h2 h3 h4 h5 h6 h7 h8 h9 h10 h11 h12 h13,kn⟩
      exact this
set_option tactic.hygienic true in
theorem Zhy {M:Model} {A:Around} {E:Value→Shared→Prop} {s:Shared} {e:Addr} {cl:String} {fl:Value} {f:Option Addr} {Q:Unit→Shared→Prop}
    (X:ExcSt1 c R H e cl fl s.heap) (hfl:fl≠.ellipsis) (q:∀ h',ExcSt1 c R H e cl (f.elim .none fun f=>rawInt f) h'→Q () { s with heap:=h' }):wpAny M A (setFlight (.ref e) f) Q E s:=by
  obtain ⟨st,re,he,be,ob,kn⟩:=X
  cases ob with
  | fresh h1=>exact absurd rfl hfl
  | traced h1 h2 h3 h4 h5 h6 h7 h8 h9 h10 h11 h12 h13 =>
    rename_i oe vs T oT ts a0
    have hsz3:3 < ts.size:=(Array.getElem?_eq_some_iff.mp h12).1
    have other:∀ b,b≠T→(s.heap.update T (Obj.mapFields (·.setIfInBounds 3 (f.elim Value.none fun f=>rawInt f)))).get? b=s.heap.get? b :=
      fun b hb=>Heap.get?_update_other _ _ (Ne.symm hb)
    unfold setFlight
    refine wpAny_bind (wpAny_field h1 h3 h5 ?_)
    rw [if_pos (show (Value.ref T != Value.none)=true from by simp)]
    refine wpAny_setField h10 h11 hsz3 (q _ ⟨?_,re,he,be,?_,kn⟩)
    · refine st.noted (ls:=[T]) (fun a ha=>.inr ?_) (fun b o hb hn=>(other b (by simpa using hn)).trans hb) (fun b o hb hn=>⟨o.slots,(other b (fun z=>?_)).trans hb⟩) ?_
      · simp only [List.mem_singleton] at ha
        subst ha
        exact ⟨h7,h8,h9,_,_,h10,h11⟩
      · rw [z,h10] at hb;cases hb;exact hn _ h11
      · rw [Heap.size_update];exact st.size
    · exact .traced ((other e (Ne.symm h6)).trans h1) h2 h3 h4 h5 h6 h7 h8 h9 (Heap.get?_update_self _ h10 (Obj.isFreed_of_fields (Obj.data_mapFields h11 _))) (Obj.data_mapFields h11 _) (by simp [hsz3]) (by cases f <;> simp [rawInt])
theorem Zoj {M:Model} {A:Around} {E:Value→Shared→Prop} {s:Shared} {e:Addr} {cl:String} {fl:Value} {env:Env} {outer:List Env} {Q:Unit→Shared→Prop} (hfr:A.frames=some (env :: outer)) (hs:Stk R (env :: outer))
    (X:ExcSt1 c R H e cl fl s.heap) (hfl:FlOk env fl) (q:∀ h',ExcSt1 c R H e cl .none h'→Q () { s with heap:=h' }):wpAny M A (leaving env (.ref e)) Q E s:=by
  unfold leaving
  exact wpAny_bind (Zkt hfr hs X hfl fun h₁ X1=>Zhy (s:={ s with heap:=h₁ }) X1 (by simp [rawInt]) fun h₂ X2=>q h₂ X2)
end
section
variable {c:Cx} {R:RR} {H:Zaa} {h h':Heap}
theorem Znc {M:Model} {A:Around} {E:Value→Shared→Prop} {s:Shared} {e:Addr} {cl:String} {fl:Value} {env:Env} {outer:List Env} {Q:Unit→Shared→Prop} (hfr:A.frames=some (env :: outer)) (hs:Stk R (env :: outer))
    (X:ExcSt c R H e cl fl s.heap) (hfl:FlOk env fl) (q:∀ h',ExcSt c R H e cl (rawInt env.locals) h'→Q () { s with heap:=h' }):wpAny M A (noteFrame (.ref e) env) Q E s :=
  let ⟨H₁,X,r⟩:=X;Zkt hfr hs X hfl fun h' X'=>q h' ⟨H₁,X',r⟩
theorem Zf6 {M:Model} {A:Around} {E:Value→Shared→Prop} {s:Shared} {e:Addr} {cl:String} {fl:Value} {f:Option Addr} {Q:Unit→Shared→Prop}
    (X:ExcSt c R H e cl fl s.heap) (hfl:fl≠.ellipsis) (q:∀ h',ExcSt c R H e cl (f.elim .none fun f=>rawInt f) h'→Q () { s with heap:=h' }):wpAny M A (setFlight (.ref e) f) Q E s :=
  let ⟨H₁,X,r⟩:=X;Zhy X hfl fun h' X'=>q h' ⟨H₁,X',r⟩
theorem Zq9 {M:Model} {A:Around} {E:Value→Shared→Prop} {s:Shared} {e:Addr} {cl:String} {fl:Value} {env:Env} {outer:List Env} {Q:Unit→Shared→Prop} (hfr:A.frames=some (env :: outer)) (hs:Stk R (env :: outer))
    (X:ExcSt c R H e cl fl s.heap) (hfl:FlOk env fl) (q:∀ h',ExcSt c R H e cl .none h'→Q () { s with heap:=h' }):wpAny M A (leaving env (.ref e)) Q E s :=
  let ⟨H₁,X,r⟩:=X;Zoj hfr hs X hfl fun h' X'=>q h' ⟨H₁,X',r⟩
theorem ExcSt.st {e:Addr} {cl:String} {fl:Value} (X:ExcSt c R H e cl fl h):St c R H h:=let ⟨H₁,X,r⟩:=X;⟨H₁,X.st,r⟩
theorem ExcSt.he {e:Addr} {cl:String} {fl:Value} (X:ExcSt c R H e cl fl h):H e=none:=let ⟨_,X,r⟩:=X;r.none X.he
theorem ExcSt.kn {e:Addr} {cl:String} {fl:Value} (X:ExcSt c R H e cl fl h):(c.P.excs.lookup cl).isSome=true:=let ⟨_,X,_⟩:=X;X.kn
end
end Mine
end
section
open PySem PySem.W PyProof.Rows PySem.Spec PySem.SeqAt PySem.Calls
namespace Mine
noncomputable def Zcm (R:RR) (a:Addr):RR:=fun b=>if b=a then none else R b
theorem Zeo {R:RR} {a:Addr}:∀ b r,Zcm R a b=some r→R b=some r:=fun b r e=>by
  unfold Zcm at e;split at e
  · cases e
  · exact e
theorem Za2 {R:RR} {a b:Addr} (h:b≠a):Zcm R a b=R b:=by simp [Zcm,h]
theorem Zb8 {R:RR} {a:Addr}:Zcm R a a=none:=by simp [Zcm]
noncomputable def ItObj (H:Zaa) (v:AV) (k:Nat) (o:Obj):Prop :=
  match v with
  | .ref a=>(match H a with
    | some (.list _)=>o.cls = .type "list_iterator"∧o.data = .fields #[.ref a,.int k 0]
    | some (.tuple _)=>o.cls = .type "tuple_iterator"∧o.data = .fields #[.ref a,.int k 0]
    | some (.range lo hi)=>o = { cls:=.type "range_iterator",dict:=none,data:=.fields #[rawInt (lo + k),rawInt (((hi - lo).toNat:Int) - k),rawInt 1],slots:=#[] }
    | _=>False)
  | .str s=>∃ t,(o.cls = .type "str_ascii_iterator"∨o.cls = .type "str_iterator")∧o.data = .fields #[.str s t,.int k 0]
  | _=>False
theorem ItObj.same {H H':Zaa} {v:AV} {k:Nat} {o:Obj} (h:ItObj H v k o) (e:Zdu H H' v):ItObj H' v k o:=by
  cases v with
  | ref a=>dsimp only [Zdu] at e;simp only [ItObj] at h ⊢;rw [e];exact h
  | str s=>exact h
  | _=>exact h
theorem Zpe {a b:Int}:Builtin.Range.rangeSize a b 1=((b - a).toNat:Int):=by
  unfold Builtin.Range.rangeSize
  simp only [Int.ediv_one,show (1:Int) > 0 from by decide,if_true]
  split <;> omega
theorem Zsm {a b:Int} (h:RgOk a b):Builtin.Range.small a b 1=true:=by
  unfold Builtin.Range.small Builtin.Range.rangeFitsLong
  rw [Zpe]
  obtain ⟨h1,h2,h3,h4⟩:=h
  simp only [show (1:Int) > 0 from by decide,if_true,Bool.and_eq_true,Bool.or_eq_true,decide_eq_true_eq,beq_iff_eq]
  refine ⟨⟨⟨⟨⟨?_,?_⟩,⟨?_,?_⟩⟩,⟨?_,?_⟩⟩,⟨?_,?_⟩⟩,.inr ⟨?_,?_⟩⟩ <;> omega
section
variable {c:Cx} {R:RR} {H:Zaa} {A:Around} {E:Value→Shared→Prop} {s:Shared}
theorem Zhu {o:Obj} {Q:Value→Shared→Prop} (hnf:o.isFreed=false) (S:St c R H s.heap) (q:∀ s' a,R a=none→H a=none→St c (rup R a (.obj o)) H s'.heap→Sm s s'→Q (.ref a) s'):Q (.ref s.heap.objs.size) { s with heap:=s.heap.push o }:=by
  obtain ⟨h1,h2,h3⟩:=S.newRes (x:=s.heap.objs.size) (r:=.obj o) (h':=s.heap.push o) (Nat.le_refl _) (fun _ _ z=>Heap.get?_push_of_some _ z) (by rw [Heap.size_push];omega) (Heap.get?_push_size _ hnf)
  exact q _ _ h1 h2 h3 ⟨_,_,rfl⟩
set_option tactic.hygienic true in
theorem Zqo {mg mb:Str→Option Value} {v:AV} {u:Value} {xs:List AV} {Q:Value→Shared→Prop} (C:c.Ok mg mb) (hv:VR v u) (S:St c R H s.heap) (hx:Zas H v=some xs)
    (q:∀ s' a o,R a=none→H a=none→ItObj H v 0 o→St c (rup R a (.obj o)) H s'.heap→Sm s s'→Q (.ref a) s'):wpAny (model c.prog c.w) A (pyIter u) Q E s:=by
  cases hv with
  | ref a =>
    simp only [Zas] at hx
    split at hx
    · rename_i ys e
      obtain ⟨vs,n,k1,k2,k3⟩:=Za9 (g:=⟨c,0,true⟩) S e
      exact wpAny_pyIter_list k3 (Zhu rfl S fun s' b h1 h2 h3 h4=>q s' b _ h1 h2 (by simp [ItObj,e]) h3 h4)
    · rename_i ys e
      obtain ⟨vs,n,k1,k2,k3⟩:=Zcy (g:=⟨c,0,true⟩) S e
      exact wpAny_pyIter_tuple ⟨_,k1,rfl,_,rfl⟩ (Zhu rfl S fun s' b h1 h2 h3 h4=>q s' b _ h1 h2 (by simp [ItObj,e]) h3 h4)
    · rename_i lo hi e
      obtain ⟨⟨D,rg,t,u,w,hr⟩,_⟩:=S.orep e
      exact wpAny_pyIter_range hr (Zsm rg) (Zhu rfl S fun s' b h1 h2 h3 h4=>q s' b _ h1 h2 (by simp [ItObj,e,Zpe]) h3 h4)
    · cases hx
  | str x t =>
    cases ha:x.cps.all (· < 128)
    · exact wpAny_pyIter_wide ha (Zhu rfl S fun s' b h1 h2 h3 h4=>q s' b _ h1 h2 ⟨t,.inr rfl,rfl⟩ h3 h4)
    · exact wpAny_pyIter_ascii ha (Zhu rfl S fun s' b h1 h2 h3 h4=>q s' b _ h1 h2 ⟨t,.inl rfl,rfl⟩ h3 h4)
  | none=>cases hx
  | bool b=>cases hx
  | int i t=>cases hx
theorem Zvh {x:Str} {i ch:Nat} (h:PyData.strOk x=true) (e:x.cps[i]? = some ch):PyData.strOk ⟨#[ch]⟩ = true :=
  Zi8 (l:=[ch]) (by intro c hc;simp at hc;subst hc;exact Zhd h (Array.mem_of_getElem? e))
set_option tactic.hygienic true in
theorem Zlz {v:AV} {xs:List AV} {x:AV} {k:Nat} {a:Addr} {o:Obj} {Q:Option Value→Shared→Prop} (hx:Zas H v=some xs) (hk:xs[k]? = some x) (hi:ItObj H v k o) (hr:R a=some (.obj o)) (S:St c R H s.heap)
    (hsv:∀ y,v = .str y→PyData.strOk y=true)
    (q:∀ s' u o',VR x u→ItObj H v (k + 1) o'→St c (rup R a (.obj o')) H s'.heap→Sm s s'→Q (some u) s'):wpAny (model c.prog c.w) A (pyNext (.ref a)) Q E s:=by
  have ho:s.heap.get? a=some o:=(S.res _ _ hr).2
  cases v with
  | ref p =>
    simp only [Zas] at hx
    split at hx
    · rename_i ys e
      cases hx
      obtain ⟨vs,n,k1,k2,k3⟩:=Za9 (g:=⟨c,0,true⟩) S e
      obtain ⟨w,hw,hvr⟩:=k2.get hk
      simp only [ItObj,e] at hi
      refine wpAny_pyNext_list_item ⟨o,ho,hi.1,hi.2⟩ k3 (by simpa using hw) fun h' ⟨o',p1,p2,p3⟩ hs=>?_
      exact q _ w o' hvr (by simp only [ItObj,e];exact ⟨p2,p3⟩) (S.setRes hr hs p1) ⟨_,_,rfl⟩
    · rename_i ys e
      cases hx
      obtain ⟨vs,n,k1,k2,k3⟩:=Zcy (g:=⟨c,0,true⟩) S e
      obtain ⟨w,hw,hvr⟩:=k2.get hk
      simp only [ItObj,e] at hi
      refine wpAny_pyNext_tuple_item (items:=vs.toArray) ⟨o,ho,hi.1,hi.2⟩ ⟨_,k1,rfl,_,rfl⟩ (by simpa using hw) fun h' ⟨o',p1,p2,p3⟩ hs=>?_
      exact q _ w o' hvr (by simp only [ItObj,e];exact ⟨p2,p3⟩) (S.setRes hr hs p1) ⟨_,_,rfl⟩
    · rename_i lo hi' e
      cases hx
      simp only [ItObj,e] at hi
      subst hi
      have hlt:k < (hi' - lo).toNat:=by
        have:=(List.getElem?_eq_some_iff.mp hk).1
        simpa using this
      have hxe:x = .int (lo + k):=by
        rw [List.getElem?_map,List.getElem?_range hlt] at hk
        simpa using hk.symm
      subst hxe
      refine wpAny_pyNext_range_item (x:=lo + k) (left:=((hi' - lo).toNat:Int) - k) (step:=1) ho (by omega) fun h' p1 hs=>?_
      refine q _ _ _ (.int _ _) ?_ (S.setRes (r':=.obj _) hr hs p1) ⟨_,_,rfl⟩
      simp only [ItObj,e]
      have e1:lo + (k:Int) + 1=lo + ((k + 1:Nat):Int):=by omega
      have e2:((hi' - lo).toNat:Int) - k - 1=((hi' - lo).toNat:Int) - ((k + 1:Nat):Int):=by omega
      rw [e1,e2]
    · cases hx
  | str y =>
    cases hx
    rw [List.getElem?_map,Option.map_eq_some_iff] at hk
    obtain ⟨ch,hk1,rfl⟩:=hk
    have hch:y.cps[k]? = some ch:=by rw [← Array.getElem?_toList];exact hk1
    obtain ⟨t,hc,hd⟩:=hi
    have hok:=Zvh (hsv y rfl) hch
    rcases hc with hc | hc
    · refine wpAny_pyNext_ascii_item ⟨o,ho,hc,hd⟩ hch fun h' ⟨o',p1,p2,p3⟩ hs=>?_
      exact q _ _ o' (.str _ _ hok) ⟨t,.inl p2,p3⟩ (S.setRes hr hs p1) ⟨_,_,rfl⟩
    · refine wpAny_pyNext_wide_item ⟨o,ho,hc,hd⟩ hch fun h' ⟨o',p1,p2,p3⟩ hs=>?_
      exact q _ _ o' (.str _ _ hok) ⟨t,.inr p2,p3⟩ (S.setRes hr hs p1) ⟨_,_,rfl⟩
  | none=>cases hx
  | bool b=>cases hx
  | int i=>cases hx
theorem St1.dropAny {h h':Heap} {a:Addr} {r₀:Res} (S:St1 c R H h) (hr:R a=some r₀) (k:Heap.ExtBut a h h') (hsz:c.base.objs.size≤h'.objs.size):St1 c (Zcm R a) H h':=by
  obtain ⟨s1,s2,s3,D,s4⟩:=S
  have nn:∀ b,R b=none→Zcm R a b=none:=fun b e=>by
    cases q:Zcm R a b with
    | none=>rfl
    | some r=>rw [Zeo b r q] at e;cases e
  refine ⟨fun b o' e=>k b o' (fun z=>?_) (s1 b o' e),hsz,fun b r e=>⟨(s3 b r (Zeo b r e)).1,(s3 b r (Zeo b r e)).2.agree fun ob z=>k b ob (fun w=>?_) z⟩,D,⟨fun b ao e=>?_,fun b ao e=>⟨(s4.above b ao e).1,nn _ (s4.above b ao e).2⟩,fun b cl es e=>?_,s4.inj⟩⟩
  · have:=leN (s3 a _ hr).1;have:=lts e;rw [z] at this;omega
  · rw [w,Zb8] at e;cases e
  · refine (s4.rep b ao e).agree (fun ob z=>k b ob (fun w=>?_) z) fun cl es eo=>⟨rfl,fun ob z=>k _ ob (fun w=>?_) z⟩
    · have:=(s4.above b ao e).2;rw [w,hr] at this;cases this
    · subst eo;have:=(s4.dict b cl es e).2.1;rw [w,hr] at this;cases this
  · obtain ⟨y1,y2,y3⟩:=s4.dict b cl es e
    exact ⟨y1,nn _ y2,y3⟩
theorem St.dropAny {h h':Heap} {a:Addr} {r₀:Res} (S:St c R H h) (hr:R a=some r₀) (k:Heap.ExtBut a h h') (hsz:c.base.objs.size≤h'.objs.size):St c (Zcm R a) H h':=let ⟨H₁,s,r⟩:=S;⟨H₁,s.dropAny hr k hsz,r⟩
set_option tactic.hygienic true in
theorem Zqp {v:AV} {xs:List AV} {k:Nat} {a L:Addr} {m:Str→Option Value} {o:Obj} {Q:Option Value→Shared→Prop} (hh:A.handled=none) (hx:Zas H v=some xs) (hk:xs[k]? = none) (hi:ItObj H v k o) (hr:R a=some (.obj o)) (hL:R L=some (.ns m)) (S:St c R H s.heap)
    (q:∀ s',St c (Zcm R a) H s'.heap→Sm s s'→Q none s'):wpAny (model c.prog c.w) A (pyNext (.ref a)) Q E s:=by
  have ho:s.heap.get? a=some o:=(S.res _ _ hr).2
  have fin:∀ h',Heap.ExtBut a s.heap h'→Q none { s with heap:=h' }:=fun h' k=>by
    refine q _ (S.dropAny hr k ?_) ⟨_,_,rfl⟩
    obtain ⟨oL,es,ep,w,_⟩:=(S.res _ _ hL).2
    have h1:=leN (S.res _ _ hL).1
    have h2:=lts (k L oL (fun z=>by rw [z,hr] at hL;cases hL) w)
    exact Nat.le_of_lt (Nat.lt_of_le_of_lt h1 h2)
  cases v with
  | ref p =>
    simp only [Zas] at hx
    split at hx
    · rename_i ys e
      cases hx
      obtain ⟨vs,n,k1,k2,k3⟩:=Za9 (g:=⟨c,0,true⟩) S e
      simp only [ItObj,e] at hi
      refine wpAny_pyNext_list_end hh ⟨o,ho,hi.1,hi.2⟩ k3 ?_ fin
      have:=k2.length
      simp at hk ⊢;omega
    · rename_i ys e
      cases hx
      obtain ⟨vs,n,k1,k2,k3⟩:=Zcy (g:=⟨c,0,true⟩) S e
      simp only [ItObj,e] at hi
      refine wpAny_pyNext_tuple_end (items:=vs.toArray) hh ⟨o,ho,hi.1,hi.2⟩ ⟨_,k1,rfl,_,rfl⟩ ?_ fin
      have:=k2.length
      simp at hk ⊢;omega
    · rename_i lo hi' e
      cases hx
      simp only [ItObj,e] at hi
      subst hi
      have hlt:(hi' - lo).toNat≤k:=by simpa using hk
      exact wpAny_pyNext_range_end (x:=lo + k) (left:=((hi' - lo).toNat:Int) - k) (step:=1) hh ho (by omega) fin
    · cases hx
  | str y =>
    cases hx
    have hch:y.cps[k]? = none:=by rw [← Array.getElem?_toList];simpa using hk
    obtain ⟨t,hc,hd⟩:=hi
    rcases hc with hc | hc
    · exact wpAny_pyNext_ascii_end hh ⟨o,ho,hc,hd⟩ hch fin
    · exact wpAny_pyNext_wide_end hh ⟨o,ho,hc,hd⟩ hch fin
  | none=>cases hx
  | bool b=>cases hx
  | int i=>cases hx
end
end Mine
end
section
open PySem PySem.W PyProof.Rows PySem.Spec PySem.SeqAt PySem.Calls
namespace Mine
noncomputable def RStep (env:Env) (R R':RR):Prop:=∀ b,R' b=R b∨(b=env.locals∧∃ m m',R b=some (.ns m)∧R' b=some (.ns m'))∨((∃ n,env.cells.lookup n=some b)∧∃ x x',R b=some (.cell x)∧R' b=some (.cell x'))
theorem RStep.refl {env:Env} {R:RR}:RStep env R R:=fun _=>.inl rfl
theorem RStep.trans {env:Env} {R R' R'':RR} (x:RStep env R R') (y:RStep env R' R''):RStep env R R'':=fun b=>by
  rcases x b with h | ⟨h1,m,m',h2,h3⟩ | ⟨h1,m,m',h2,h3⟩
  · rcases y b with k | ⟨k1,m,m',k2,k3⟩ | ⟨k1,m,m',k2,k3⟩
    · exact .inl (k.trans h)
    · exact .inr (.inl ⟨k1,m,m',by rw [← h];exact k2,k3⟩)
    · exact .inr (.inr ⟨k1,m,m',by rw [← h];exact k2,k3⟩)
  · rcases y b with k | ⟨k1,n,n',k2,k3⟩ | ⟨k1,n,n',k2,k3⟩
    · exact .inr (.inl ⟨h1,m,m',h2,by rw [k];exact h3⟩)
    · exact .inr (.inl ⟨h1,m,n',h2,k3⟩)
    · rw [h3] at k2;cases k2
  · rcases y b with k | ⟨k1,n,n',k2,k3⟩ | ⟨k1,n,n',k2,k3⟩
    · exact .inr (.inr ⟨h1,m,m',h2,by rw [k];exact h3⟩)
    · rw [h3] at k2;cases k2
    · exact .inr (.inr ⟨h1,m,n',h2,k3⟩)
theorem RStep.ns {env:Env} {R R':RR} (x:RStep env R R') {a:Addr} {m} (h:R a=some (.ns m)):∃ m',R' a=some (.ns m'):=by
  rcases x a with k | ⟨_,_,m',_,k⟩ | ⟨_,_,_,k,_⟩
  · exact ⟨m,k.trans h⟩
  · exact ⟨m',k⟩
  · rw [h] at k;cases k
theorem RStep.obj {env:Env} {R R':RR} (x:RStep env R R') {a:Addr} {o} (h:R a=some (.obj o)):R' a=some (.obj o):=by
  rcases x a with k | ⟨_,_,m',k,_⟩ | ⟨_,_,_,k,_⟩
  · exact k.trans h
  · rw [h] at k;cases k
  · rw [h] at k;cases k
theorem RStep.none {env:Env} {R R':RR} (x:RStep env R R') {a:Addr} (h:R a=Option.none):R' a=Option.none:=by
  rcases x a with k | ⟨_,_,m',k,_⟩ | ⟨_,_,_,k,_⟩
  · exact k.trans h
  · rw [h] at k;cases k
  · rw [h] at k;cases k
theorem RStep.stk {env:Env} {R R':RR} (x:RStep env R R') {l:List Env} (h:Stk R l):Stk R' l:=fun e he =>
  let F:=h e he
  ⟨F.kind,F.frame,F.gen,F.co,F.blt,F.glob,let ⟨_,hm⟩:=F.ns;x.ns hm⟩
theorem Ev.step {g:Gx} {A:Around} {R R':RR} {env e:Env} {l:List Env} (x:RStep env R R') (h:Ev g A R e l):Ev g A R' e l:=⟨h.aok,x.stk h.stk⟩
theorem Frm.congr {R R':RR} {env:Env} {sc:Scope} {nm:List Str} {V:VV} (fr:Frm R env sc nm V) (h:∀ b,(∃ m,R b=some (.ns m))∨(∃ x,R b=some (.cell x))→R' b=R b):Frm R' env sc nm V:=by
  obtain ⟨k1,k2,k3,k4,k5,k6,k7,kc,kl,k8,⟨m,n1,n2⟩,k9⟩:=fr
  refine ⟨k1,k2,k3,k4,k5,k6,k7,kc,kl,k8,⟨m,(h _ (.inl ⟨m,n1⟩)).trans n1,n2⟩,fun i n hn hk=>?_⟩
  obtain ⟨a,x,v,c1,c2,c3⟩:=k9 i n hn hk
  exact ⟨a,x,v,c1,(h _ (.inr ⟨x,c2⟩)).trans c2,c3⟩
section
variable {c:Cx} {R:RR} {H:Zaa} {V:VV} {env:Env} {sc:Scope} {nm:List Str}
theorem Frm.local' (fr:Frm R env sc nm V) (nd:nm.Nodup) {i:Nat} {id:Str} {x:Option AV} {w:Option Value} {m:Str→Option Value} (hi:nm[i]? = some id) (hl:env.kindOf id=some .local) (hm:R env.locals=some (.ns m)) (hv:OVW x w) :
    Frm (rup R env.locals (.ns fun y=>if y=id then w else m y)) env sc nm (V.set i x):=by
  obtain ⟨k1,k2,k3,k4,k5,k6,k7,kc,kl,k8,⟨m',n1,n2⟩,k9⟩:=fr
  rw [hm] at n1;cases n1
  have hnd:∀ {j:Nat} {n:Str},nm[j]? = some n→(n=id ↔ j=i):=fun {j n} hj=>by
    constructor
    · rintro rfl
      have h1:=List.getElem?_eq_some_iff.mp hj
      have h2:=List.getElem?_eq_some_iff.mp hi
      exact (List.getElem_inj nd).mp (h1.2.trans h2.2.symm)
    · rintro rfl;rw [hi] at hj;cases hj;rfl
  refine ⟨k1,k2,k3,k4,k5,k6,k7,kc,by rw [List.length_set];exact kl,k8,⟨_,Zaq,fun j n hj hk=>?_⟩,fun j n hj hk=>?_⟩
  · obtain ⟨v,v1,v2⟩:=n2 j n hj hk
    by_cases q:n=id
    · have:=(hnd hj).mp q
      subst q this
      have hlt:=(List.getElem?_eq_some_iff.mp v1).1
      exact ⟨x,by simp [hlt],by simpa using hv⟩
    · have hne:j≠i:=fun z=>q ((hnd hj).mpr z)
      exact ⟨v,by rw [List.getElem?_set_ne (Ne.symm hne)];exact v1,by simp only [q,if_false];exact v2⟩
  · obtain ⟨a,y,v,c1,c2,c3,c4⟩:=k9 j n hj hk
    have hna:a≠env.locals:=fun z=>by rw [z,hm] at c2;cases c2
    have hne:j≠i:=fun z=>by
      have:=(hnd hj).mpr z
      subst this
      rw [hl] at hk;rcases hk with hk | hk <;> cases hk
    exact ⟨a,y,v,c1,by rw [Zag hna];exact c2,by rw [List.getElem?_set_ne (Ne.symm hne)];exact c3,c4⟩
theorem Frm.cell' (fr:Frm R env sc nm V) (nd:nm.Nodup) {i:Nat} {id:Str} {a:Addr} {x:Option AV} {w y:Option Value} (hi:nm[i]? = some id) (hl:env.kindOf id=some .cell) (ha:env.cells.lookup id=some a) (hr:R a=some (.cell y)) (hv:OVW x w) :
    Frm (rup R a (.cell w)) env sc nm (V.set i x):=by
  obtain ⟨k1,k2,k3,k4,k5,k6,k7,kc,kl,k8,⟨m',n1,n2⟩,k9⟩:=fr
  have hnd:∀ {j:Nat} {n:Str},nm[j]? = some n→(n=id ↔ j=i):=fun {j n} hj=>by
    constructor
    · rintro rfl
      have h1:=List.getElem?_eq_some_iff.mp hj
      have h2:=List.getElem?_eq_some_iff.mp hi
      exact (List.getElem_inj nd).mp (h1.2.trans h2.2.symm)
    · rintro rfl;rw [hi] at hj;cases hj;rfl
  have hna:env.locals≠a:=fun z=>by rw [z,hr] at n1;cases n1
  refine ⟨k1,k2,k3,k4,k5,k6,k7,kc,by rw [List.length_set];exact kl,k8,⟨m',by rw [Zag hna];exact n1,fun j n hj hk=>?_⟩,fun j n hj hk=>?_⟩
  · obtain ⟨v,v1,v2⟩:=n2 j n hj hk
    have hne:j≠i:=fun z=>by
      have:=(hnd hj).mpr z
      subst this
      rw [hl] at hk;cases hk
    exact ⟨v,by rw [List.getElem?_set_ne (Ne.symm hne)];exact v1,v2⟩
  · obtain ⟨b,z,v,c1,c2,c3,c4⟩:=k9 j n hj hk
    by_cases q:n=id
    · have:=(hnd hj).mp q
      subst q this
      rw [ha] at c1;cases c1
      have hlt:=(List.getElem?_eq_some_iff.mp c3).1
      exact ⟨a,w,x,ha,Zaq,by simp [hlt],hv⟩
    · have hne:j≠i:=fun z=>q ((hnd hj).mpr z)
      have hab:b≠a:=fun z=>q (k8 n id a (by rw [← z];exact c1) ha)
      exact ⟨b,z,v,c1,by rw [Zag hab];exact c2,by rw [List.getElem?_set_ne (Ne.symm hne)];exact c3,c4⟩
theorem Zhf {M:Model} {A:Around} {E:Value→Shared→Prop} {s:Shared} {i:Nat} {id:Str} {x:AV} {u:Value} {Q:Unit→Shared→Prop} (fr:Frm R env sc nm V) (nd:nm.Nodup) (hi:nm[i]? = some id) (hk:Zd4 sc id=true) (hv:VR x u)
    (S:St c R H s.heap) (q:∀ s' R',RStep env R R'→Frm R' env sc nm (V.set i (some x))→St c R' H s'.heap→Sm s s'→Q () s'):wpAny M A (storeName env id u) Q E s:=by
  obtain ⟨m,hm,_⟩:=fr.ns
  rcases fr.lok id hk with hl | hl
  · refine wpAny_storeName_local hl (S.res _ _ hm).2 (fun h' hn hs=>?_) (by rw [fr.kind];rfl)
    refine q _ _ (fun b=>?_) (fr.local' nd hi hl hm (.some hv)) (S.setRes (r':=.ns _) hm hs hn) ⟨_,_,rfl⟩
    by_cases z:b=env.locals
    · subst z;exact .inr (.inl ⟨rfl,_,_,hm,Zaq⟩)
    · exact .inl (Zag z)
  · obtain ⟨a,y,v,c1,c2,c3,c4⟩:=fr.cell i id hi (.inl hl)
    refine wpAny_storeName_cell fr.kind hl c1 (S.res _ _ c2).2 fun h' hn hs=>?_
    refine q _ _ (fun b=>?_) (fr.cell' nd hi hl c1 c2 (.some hv)) (S.setRes (r':=.cell _) c2 hs hn) ⟨_,_,rfl⟩
    by_cases z:b=a
    · subst z;exact .inr (.inr ⟨⟨_,c1⟩,_,_,c2,Zaq⟩)
    · exact .inl (Zag z)
theorem ExcSt1.weaken {R':RR} {e:Addr} {cl:String} {fl:Value} {h:Heap} (X:ExcSt1 c R' H e cl fl h) (k:∀ b r,R b=some r→R' b=some r):ExcSt1 c R H e cl fl h:=by
  obtain ⟨st,re,he,be,ob,kn⟩:=X
  have nn:∀ a,R' a=none→R a=none:=fun a e=>by
    cases q:R a with
    | none=>rfl
    | some r=>rw [k a r q] at e;cases e
  refine ⟨st.weaken k,nn _ re,he,be,?_,kn⟩
  cases ob with
  | fresh h1=>exact .fresh h1
  | traced h1 h2 h3 h4 h5 h6 h7 h8 h9 h10 h11 h12 h13=>exact .traced h1 h2 h3 h4 h5 h6 (nn _ h7) h8 h9 h10 h11 h12 h13
theorem ExcAt.obj {e:Addr} {cls fl:Value} {h:Heap} (X:ExcAt c R H h e cls fl):∃ o vs,h.get? e=some o∧o.cls=cls∧o.data = .fields vs:=by
  cases X with
  | fresh h1=>exact ⟨_,_,h1,rfl,rfl⟩
  | traced h1 h2 h3=>exact ⟨_,_,h1,h2,h3⟩
theorem ExcSt.weaken {R':RR} {e:Addr} {cl:String} {fl:Value} {h:Heap} (X:ExcSt c R' H e cl fl h) (k:∀ b r,R b=some r→R' b=some r):ExcSt c R H e cl fl h:=let ⟨H₁,X,r⟩:=X;⟨H₁,X.weaken k,r⟩
theorem ExcSt.obj {e:Addr} {cl:String} {fl:Value} {h:Heap} (X:ExcSt c R H e cl fl h):∃ o vs,h.get? e=some o∧o.cls = .ref (c.ca cl)∧o.data = .fields vs:=let ⟨_,X,_⟩:=X;X.ob.obj
end
inductive TFn (c:Cx) (env:Env) (sc:Scope) (nm:List Str) (R:RR) (s0:Shared) (QN:VV→Zaa→Prop) (s':Shared):Prop
  | mk (R':RR) (V':VV) (H':Zaa) (r:RStep env R R') (f:Frm R' env sc nm V') (S:St c R' H' s'.heap) (m:Sm s0 s') (q:QN V' H'):TFn c env sc nm R s0 QN s'
inductive TFr (c:Cx) (env:Env) (R:RR) (s0:Shared) (QR:AV→Zaa→Prop) (v:Value) (s':Shared):Prop
  | mk (R':RR) (av:AV) (H':Zaa) (r:RStep env R R') (hv:VR av v) (S:St c R' H' s'.heap) (m:Sm s0 s') (q:QR av H'):TFr c env R s0 QR v s'
inductive TXi (c:Cx) (env:Env) (sc:Scope) (nm:List Str) (R:RR) (s0:Shared) (E:String→VV→Zaa→Prop) (e:Value) (s':Shared):Prop
  | mk (a:Addr) (cl:String) (R':RR) (V':VV) (H':Zaa) (fl:Value) (h:e = .ref a) (r:RStep env R R') (f:Frm R' env sc nm V') (k:FlOk env fl) (X:ExcSt c R' H' a cl fl s'.heap) (m:Sm s0 s') (q:E cl V' H'):TXi c env sc nm R s0 E e s'
noncomputable def TF (g:Gx) (env:Env) (sc:Scope) (nm:List Str) (R:RR) (s0:Shared) (QN:VV→Zaa→Prop) (QR:AV→Zaa→Prop) (f:Flow) (s':Shared):Prop :=
  match f with
  | .next=>TFn g.c env sc nm R s0 QN s'
  | .ret v=>TFr g.c env R s0 QR v s'
  | _=>False
noncomputable def TX (g:Gx) (env:Env) (sc:Scope) (nm:List Str) (R:RR) (s0:Shared) (E:String→VV→Zaa→Prop) (e:Value) (s':Shared):Prop :=
  TXi g.c env sc nm R s0 E e s'
noncomputable def SOk (g:Gx) (sc:Scope) (nm:List Str) (w:Gx→(VV→Zaa→Prop)→(AV→Zaa→Prop)→(String→VV→Zaa→Prop)→VV→Zaa→Prop) (t:Env→Sem Flow):Prop :=
  ∀ (md:Bool) (A:Around) (env:Env) (l₀:List Env) (R:RR) (V:VV) (s0 s:Shared) (H:Zaa) (QN:VV→Zaa→Prop) (QR:AV→Zaa→Prop) (E:String→VV→Zaa→Prop),
    Ev { g with md:=md } A R env l₀→Frm R env sc nm V→St g.c R H s.heap→Sm s0 s→w { g with md:=md } QN QR E V H →
    wpAny (model g.c.prog g.c.w) A (t env) (TF g env sc nm R s0 QN QR) (TX g env sc nm R s0 E) s
end Mine
end
section
open PySem PySem.W PyProof.Rows PySem.Spec PySem.SeqAt PySem.Calls
namespace Mine
section
variable {c:Cx} {R:RR} {H:Zaa} {A:Around} {E:Value→Shared→Prop} {s:Shared}
theorem Zle {R:RR} {a:Addr} {r r':Res}:rup (rup R a r) a r'=rup R a r':=by
  funext b
  by_cases q:b=a
  · subst q;rw [Zaq,Zaq]
  · rw [Zag q,Zag q,Zag q]
theorem Zpf {R:RR} {a:Addr} {r:Res} (h:R a=none):Zcm (rup R a r) a=R:=by
  funext b
  by_cases q:b=a
  · subst q;rw [Zb8,h]
  · rw [Za2 q,Zag q]
theorem Zrc {p a:Addr} {xs:List AV} (hx:Zas H (.ref p)=some xs):∀ (n k:Nat) (s:Shared) (o:Obj) (Q:List Value→Shared→Prop),k + n≤xs.length→ItObj H (.ref p) k o→St c (rup R a (.obj o)) H s.heap →
    (∀ s' o' vs,ItObj H (.ref p) (k + n) o'→VRs ((xs.drop k).take n) vs→St c (rup R a (.obj o')) H s'.heap→Sm s s'→Q vs s')→wpAny (model c.prog c.w) A (draw (.ref a) n) Q E s
  | 0,k,s,o,Q,_,hi,S,q=>wpAny_pure (q s o [] hi (by rw [List.take_zero];exact .nil) S ⟨_,_,rfl⟩)
  | n + 1,k,s,o,Q,hk,hi,S,q=>by
    have hlt:k < xs.length:=by omega
    show wpAny _ _ (pyNext (.ref a) >>= _) Q E s
    refine wpAny_bind (Zlz (x:=xs[k]) hx (by simp [hlt]) hi Zaq S (fun y z=>by cases z) fun s₁ u o₁ hu ho1 S₁ m₁=>?_)
    rw [Zle] at S₁
    refine wpAny_bind (wpAny_holding (Zrc hx n (k + 1) s₁ o₁ _ (by omega) ho1 S₁ fun s₂ o₂ vs ho2 hv S2 m₂=>wpAny_pure ?_))
    refine q s₂ o₂ (u :: vs) (by rw [show k + (n + 1)=k + 1 + n by omega];exact ho2) ?_ S2 (m₁.trans m₂)
    rw [List.drop_eq_getElem_cons hlt,List.take_succ_cons]
    exact .cons hu hv
theorem Zjs {mg mb:Str→Option Value} {p L:Addr} {mL:Str→Option Value} {xs:List AV} {Q:List Value→Shared→Prop} (C:c.Ok mg mb) (hh:A.handled=none) (hL:R L=some (.ns mL)) (S:St c R H s.heap) (hx:H p=some (.tuple xs)∨H p=some (.list xs))
    (q:∀ s' vs,VRs xs vs→St c R H s'.heap→Sm s s'→Q vs s'):wpAny (model c.prog c.w) A (unpackItems (.ref p) xs.length none) Q E s:=by
  have hit:Zas H (.ref p)=some xs:=by rcases hx with e | e <;> simp [Zas,e]
  unfold unpackItems
  refine wpAny_bind ?_
  have hno:wpAny (model c.prog c.w) A (notIterableAtAll (.ref p)) (fun b s'=>b=false∧s'=s) E s:=by
    unfold notIterableAtAll
    rcases hx with e | e
    · obtain ⟨vs,n,k1,k2,k3⟩:=Zcy (g:=⟨c,0,true⟩) S e
      refine wpAny_bind (wpAny_specialOf ⟨_,k1,rfl⟩ PySem.F.slot_tuple_iter.lookup (wpAny_pure ⟨rfl,rfl⟩))
    · obtain ⟨vs,n,k1,k2,k3⟩:=Za9 (g:=⟨c,0,true⟩) S e
      refine wpAny_bind (wpAny_specialOf ⟨_,k1,rfl⟩ PySem.slot_list_iter.lookup (wpAny_pure ⟨rfl,rfl⟩))
  refine wpAny_mono hno (fun b s' z=>?_) fun _ _ z=>z
  obtain ⟨rfl,rfl⟩:=z
  dsimp only [Bool.false_eq_true,if_false]
  refine wpAny_bind (wpAny_holding (Zqo C (.ref p) S hit fun s₁ a o ha hHa ho S₁ m₁=>?_))
  refine wpAny_bind (wpAny_holding (Zrc hit xs.length 0 s₁ o _ (by omega) ho S₁ fun s₂ o₂ vs ho2 hv S2 m₂=>?_))
  rw [List.drop_zero,List.take_length] at hv
  rw [if_neg (by rw [← hv.length];exact Nat.lt_irrefl _)]
  have hLa:L≠a:=fun z=>by rw [z,ha] at hL;cases hL
  refine wpAny_bind (wpAny_holding (Zqp hh hit (by simp) ho2 Zaq (by rw [Zag hLa];exact hL) S2 fun s₃ S3 m3=>?_))
  rw [Zpf ha] at S3
  dsimp only [Option.isSome_none,Bool.false_eq_true,if_false]
  exact wpAny_pure (q s₃ vs hv S3 ((m₁.trans m₂).trans m3))
noncomputable def TgK (e:PySem.Expr):Prop:=(∃ id p,e = .Name id p)∨∃ es k p,e = .Tuple es k p
theorem Zmn {v:AV} {k:Nat} {a:Addr} {o:Obj} {tg:PySem.Expr} {u:Value} {Q:Unit→Shared→Prop} (tk:TgK tg) (hi:ItObj H v k o) (ho:s.heap.get? a=some o) (q:Q () s):wpAny (model c.prog c.w) A (letOwnedTupleGo tg (.ref a) u) Q E s:=by
  have key:∀ n vs,o.cls = .type n→o.data = .fields vs→["enumerate","zip","dict_itemiterator","dict_reverseitemiterator","odict_iterator","itertools.zip_longest","itertools.pairwise"].contains n=false →
      wpAny (model c.prog c.w) A (letOwnedTupleGo tg (.ref a) u) Q E s:=by
    intro n vs h1 h2 h3
    rcases tk with ⟨id,p,rfl⟩ | ⟨es,kk,p,rfl⟩
    · exact wpAny_pure q
    · cases u with
      | ref T =>
        unfold letOwnedTupleGo
        refine wpAny_bind (wpAny_load ho ?_)
        rw [h1,h2]
        show wpAny _ A (if (["enumerate","zip","dict_itemiterator","dict_reverseitemiterator","odict_iterator","itertools.zip_longest","itertools.pairwise"].contains n && vs[0]? == some (rawInt T))=true then _ else _) Q E s
        rw [h3,Bool.false_and,if_neg Bool.false_ne_true]
        exact wpAny_pure q
      | _=>exact wpAny_pure q
  cases v with
  | ref p =>
    simp only [ItObj] at hi
    split at hi
    · exact key _ _ hi.1 hi.2 (by decide)
    · exact key _ _ hi.1 hi.2 (by decide)
    · subst hi;exact key _ _ rfl rfl (by decide)
    · exact hi.elim
  | str y =>
    obtain ⟨t,hc,hd⟩:=hi
    rcases hc with hc | hc
    · exact key _ _ hc hd (by decide)
    · exact key _ _ hc hd (by decide)
  | none=>exact hi.elim
  | bool b=>exact hi.elim
  | int i=>exact hi.elim
end
theorem Zip {e:PySem.Expr} {r:List PySem.Expr} {ts:List Str} (h:Zc7 (e :: r) ts=true):∃ id p ts',e = .Name id p∧ts=id :: ts'∧Zc7 r ts'=true :=
  Zdk (m:=fun ts=>∃ id p ts',e = .Name id p∧ts=id :: ts'∧Zc7 r ts'=true) h fun t q h =>
    Zca (m:=fun e=>∃ id p ts',e = .Name id p∧t :: q=id :: ts'∧Zc7 r ts'=true) (and2 h).1 fun id p h1=>⟨id,p,q,rfl,by rw [eq_of_beq h1],(and2 h).2⟩
theorem Zgq {env:Env} {es:List PySem.Expr}:∀ {ts:List Str},Zc7 es ts=true→(assignEach es env).length=ts.length∧(assignEach es env).findIdx? (·.1)=none:=by
  induction es with
  | nil=>intro ts h;exact Zb6 (m:=fun ts=>_=ts.length∧_) h ⟨rfl,rfl⟩
  | cons e r ih =>
    intro ts h
    obtain ⟨id,p,ts',rfl,rfl,h1⟩:=Zip h
    obtain ⟨i1,i2⟩:=ih h1
    exact ⟨congrArg Nat.succ i1,by show List.findIdx? _ ((false,_) :: assignEach r env)=none;rw [List.findIdx?_cons,i2];rfl⟩
end Mine
end
section
open PySem PySem.W PyProof.Rows PySem.Spec PySem.SeqAt PySem.Calls
namespace Mine
noncomputable def Zc9 (env:Env):List (Str×NameKind)→List (Str×Addr)→List (Str×Addr)
  | [],acc=>acc
  | (n,k) :: r,acc=>if k == .free then Zc9 env r ((n,(env.cells.lookup n).getD 0) :: acc) else Zc9 env r acc
theorem Zxa {env:Env} (f:Str×NameKind→List (Str×Addr)→Sem (ForInStep (List (Str×Addr)))) (hf:∀ n k cs,f (n,k) cs=if k == .free then (do let a ← cellOf env n;pure (.yield ((n,a) :: cs))) else pure (.yield cs))
    (names:List (Str×NameKind)) (acc:List (Str×Addr)) (h:∀ p∈names,p.2 = .free→∃ a,env.cells.lookup p.1=some a):forIn names acc f=(pure (Zc9 env names acc):Sem _):=by
  induction names generalizing acc with
  | nil=>rw [List.forIn_nil];rfl
  | cons nk r ih =>
    obtain ⟨n,k⟩:=nk
    rw [List.forIn_cons,hf]
    unfold Zc9
    cases hk:k == NameKind.free with
    | true =>
      obtain ⟨a,ha⟩:=h (n,k) (.head _) (by simpa using hk)
      simp only [if_true,cellOf,ha,Option.getD_some]
      exact ih _ fun p hp=>h p (.tail _ hp)
    | false =>
      simp only [Bool.false_eq_true,if_false]
      exact ih _ fun p hp=>h p (.tail _ hp)
theorem Zjp {env:Env} {sc:Scope} (h:∀ p∈sc.names,p.2 = .free→∃ a,env.cells.lookup p.1=some a):closureFor sc env=pure (Zc9 env sc.names []):=by
  unfold closureFor
  dsimp only
  rw [Zxa (env:=env) _ (fun n k cs=>by cases hk:k == NameKind.free <;> simp only [hk]) sc.names [] h]
  rfl
set_option tactic.hygienic true in
theorem Zrj {env:Env} {names:List (Str×NameKind)} {acc:List (Str×Addr)} {n:Str} {a:Addr} (h:(n,a)∈Zc9 env names acc):(n,a)∈acc∨((n,NameKind.free)∈names∧a=(env.cells.lookup n).getD 0):=by
  induction names generalizing acc with
  | nil=>exact .inl h
  | cons nk r ih =>
    obtain ⟨n',k⟩:=nk
    unfold Zc9 at h
    split at h
    · rename_i hk
      rcases ih h with h | ⟨h1,h2⟩
      · rcases List.mem_cons.mp h with h | h
        · cases h
          exact .inr ⟨by rw [← (by simpa using hk:k = .free)];exact .head _,rfl⟩
        · exact .inl h
      · exact .inr ⟨.tail _ h1,h2⟩
    · rcases ih h with h | ⟨h1,h2⟩
      · exact .inl h
      · exact .inr ⟨.tail _ h1,h2⟩
theorem Zrl {env:Env} {names:List (Str×NameKind)} {acc:List (Str×Addr)} {p:Str×Addr} (h:p∈acc):p∈Zc9 env names acc:=by
  induction names generalizing acc with
  | nil=>exact h
  | cons nk r ih =>
    unfold Zc9
    split
    · exact ih (.tail _ h)
    · exact ih h
theorem Zrk {env:Env} {names:List (Str×NameKind)} {acc:List (Str×Addr)} {n:Str} (h:(n,NameKind.free)∈names):(n,(env.cells.lookup n).getD 0)∈Zc9 env names acc:=by
  induction names generalizing acc with
  | nil=>cases h
  | cons nk r ih =>
    unfold Zc9
    rcases List.mem_cons.mp h with h | h
    · cases h;simp only [beq_self_eq_true,if_true];exact Zrl (.head _)
    · split <;> exact ih h
theorem Zh5 {env:Env} {names:List (Str×NameKind)} {x:Str} :
    (names.map fun (n,k)=>if (k == NameKind.free && env.scope.kind == .function && env.kindOf n == some .cell) then (n,NameKind.cell) else (n,k)).lookup x =
      (names.lookup x).map fun k=>if (k == NameKind.free && env.scope.kind == .function && env.kindOf x == some .cell) then NameKind.cell else k:=by
  induction names with
  | nil=>rfl
  | cons nk r ih =>
    obtain ⟨n,k⟩:=nk
    show List.lookup x ((if (k == NameKind.free && env.scope.kind == .function && env.kindOf n == some .cell)=true then (n,NameKind.cell) else (n,k)) :: _)=_
    cases hx:x == n with
    | true =>
      have:x=n:=by simpa using hx
      subst this
      split <;> simp_all [List.lookup_cons]
    | false =>
      split <;> simp only [List.lookup_cons,hx] <;> exact ih
theorem Zdl {l:List (Str×NameKind)} {n:Str} {k:NameKind} (h:l.lookup n=some k):(n,k)∈l:=mem_of_lookup h
set_option tactic.hygienic true in
theorem Zkj {nm ts:List Str} {i:Nat} {n:Str} (h:(Zdt nm ts)[i]? = some n) (hn:n.length≠0):nm[i]? = some n∧n ∉ ts:=by
  unfold Zdt at h
  rw [List.getElem?_map,Option.map_eq_some_iff] at h
  obtain ⟨y,h1,h2⟩:=h
  split at h2
  · subst h2;exact absurd rfl hn
  · rename_i hc;subst h2;exact ⟨h1,by simpa using hc⟩
structure Z09 (sc csc:Scope) (nm ts:List Str):Prop where
  kind:csc.kind = .function
  loc:∀ t∈ts,csc.names.lookup t=some .local
  nd:ts.Nodup
  dot:Str.ofString ".0" ∉ nm
  cell:∀ p∈csc.names,p.2≠.cell
  lcl:∀ p∈csc.names,p.2 = .local→csc.names.lookup p.1=some .local∧(p.1∈ts∨p.1=Str.ofString ".0")
  free:∀ p∈csc.names,p.2 = .free→(sc.names.lookup p.1=some .cell∧p.1∈nm)∧csc.names.lookup p.1=some .free
  len:∀ p∈csc.names,p.1.length≠0
theorem Zyf {a:NameKind} {b:NameKind} {c:Bool} (h:(a != b || c)=true) (e:a=b):c=true:=by
  rw [e,show (b != b)=false from bne_self_eq_false' ..] at h;exact h
theorem Zes {sc csc:Scope} {nm ts:List Str} (h:Zcq sc csc nm ts=true):Z09 sc csc nm ts:=by
  unfold Zcq at h
  have h5:=List.all_eq_true.mp (and2 h).2
  have h4:=and2 (and2 h).1
  have h3:=and2 h4.1
  have h2:=and2 h3.1
  have h1:=List.all_eq_true.mp h2.2
  refine ⟨eq_of_beq h2.1,fun t ht=>eq_of_beq (and2 (and2 (h1 t ht)).1).1,of_decide_eq_true h3.2,fun z=>?_,fun p hp z=>?_,fun p hp z=>?_,fun p hp z=>?_,fun p hp z=>?_⟩
  · have:=h4.2
    rw [List.contains_iff_mem.mpr z] at this
    cases this
  · have:=(and2 (and2 (and2 (h5 p hp)).1).1).1
    rw [z] at this
    cases this
  · have:=and2 (Zyf (and2 (and2 (and2 (h5 p hp)).1).1).2 z)
    exact ⟨eq_of_beq this.1,((Bool.or_eq_true ..).mp this.2).imp List.contains_iff_mem.mp eq_of_beq⟩
  · have:=and2 (Zyf (and2 (and2 (h5 p hp)).1).2 z)
    have t:=and2 this.1
    exact ⟨⟨eq_of_beq t.1,List.contains_iff_mem.mp t.2⟩,eq_of_beq this.2⟩
  · have:=(and2 (h5 p hp)).2
    rw [z] at this
    cases this
set_option tactic.hygienic true in
theorem Frm.inner {R R':RR} {env:Env} {sc csc:Scope} {nm ts:List Str} {V:VV} {xv:List AV} {C:Addr} {m:Str→Option Value} (fr:Frm R env sc nm V) (hm:Zcq sc csc nm ts=true) (hC:R' C=some (.ns m)) (hk:∀ b r,R b=some r→R' b=some r)
    (hl:xv.length=ts.length) (hts:∀ (j:Nat) t,ts[j]? = some t→∃ a u,xv[j]? = some a∧m t=some u∧VR a u):Frm R' (compEnvC csc (Zc9 env csc.names []) C env) csc (Zdt nm ts ++ ts) (V ++ xv.map some):=by
  have F:=Zes hm
  clear hm
  have hkd:∀ n,(compEnvC csc (Zc9 env csc.names []) C env).kindOf n=(csc.names.lookup n).map fun k=>if (k == NameKind.free && env.scope.kind == .function && env.kindOf n == some .cell) then NameKind.cell else k:=fun n=>Zh5
  have hfree:∀ n,csc.names.lookup n=some .free→env.kindOf n=some .cell∧∃ i,nm[i]? = some n:=fun n hn=>by
    have f:=F.free (n,.free) (Zdl hn) rfl
    exact ⟨fr.cco n f.1.1,List.mem_iff_getElem?.mp f.1.2⟩
  have hnc:∀ n,csc.names.lookup n≠some .cell:=fun n hn=>F.cell (n,.cell) (Zdl hn) rfl
  have hlocal:∀ n,csc.names.lookup n=some .local→n∈ts∨n=Str.ofString ".0":=fun n hn=>(F.lcl (n,.local) (Zdl hn) rfl).2
  have hlen:∀ n k,csc.names.lookup n=some k→n.length≠0:=fun n k hn=>F.len (n,k) (Zdl hn)
  have hclook:∀ n a,(Zc9 env csc.names []).lookup n=some a→a=(env.cells.lookup n).getD 0∧(n,NameKind.free)∈csc.names:=fun n a h=>by
    rcases Zrj (mem_of_lookup h) with h | ⟨h1,h2⟩
    · cases h
    · exact ⟨h2,h1⟩
  have hcell:∀ n,csc.names.lookup n=some .free→∃ a,env.cells.lookup n=some a∧(Zc9 env csc.names []).lookup n=some a:=fun n hn=>by
    obtain ⟨k1,i,hi⟩:=hfree n hn
    obtain ⟨a,x,v,c1,_⟩:=fr.cell i n hi (.inl k1)
    have hmem:=Zrk (env:=env) (acc:=[]) (Zdl hn)
    have hs:((Zc9 env csc.names []).lookup n).isSome=true:=by
      cases q:(Zc9 env csc.names []).lookup n with
      | some=>rfl
      | none=>have:=List.lookup_eq_none_iff.mp q _ hmem;simp at this
    obtain ⟨b,hb⟩:=Option.isSome_iff_exists.mp hs
    obtain ⟨e1,_⟩:=hclook n b hb
    rw [c1] at e1
    exact ⟨a,c1,by rw [hb,e1];rfl⟩
  refine ⟨F.kind,fr.glob,fr.blt,fun id h=>?_,fun id h=>?_,fun id h=>?_,fun id h=>?_,fun id h=>absurd h (hnc id),?_,fun n n' a e e'=>?_,⟨m,hC,fun i n hi hk'=>?_⟩,fun i n hi hk'=>?_⟩
  · rw [hkd];unfold Zqq at h;rw [beq_iff_eq.mp h];rfl
  · rw [hkd]
    rcases Zkh h with z | z | z
    · rw [z];exact .inl rfl
    · exact absurd z (hnc id)
    · rw [z]
      show some (if _ then _ else _)=_∨some (if _ then _ else _)=_∨some (if _ then _ else _)=_
      split
      · exact .inr (.inl rfl)
      · exact .inr (.inr rfl)
  · rw [hkd]
    rcases Ziq h with z | z
    · rw [z];exact .inl rfl
    · exact absurd z (hnc id)
  · rw [hkd,h];rfl
  · simp only [List.length_append,List.length_map,Zdt,fr.len,hl]
  · obtain ⟨e1,f1⟩:=hclook n a e
    obtain ⟨e2,f2⟩:=hclook n' a e'
    have g1:=(F.free _ f1 rfl).2
    have g2:=(F.free _ f2 rfl).2
    obtain ⟨a1,c1,_⟩:=hcell n g1
    obtain ⟨a2,c2,_⟩:=hcell n' g2
    rw [c1] at e1;rw [c2] at e2
    simp only [Option.getD_some] at e1 e2
    exact fr.inj n n' a (by rw [c1,e1]) (by rw [c2,e2])
  · have hloc:csc.names.lookup n=some .local:=by
      rw [hkd] at hk'
      cases q:csc.names.lookup n with
      | none=>rw [q] at hk';cases hk'
      | some k =>
        rw [q] at hk'
        simp only [Option.map_some,Option.some.injEq] at hk'
        split at hk'
        · cases hk'
        · rw [hk']
    rcases Nat.lt_or_ge i (Zdt nm ts).length with hlt | hge
    · rw [List.getElem?_append_left hlt] at hi
      obtain ⟨e1,e2⟩:=Zkj hi (hlen n _ hloc)
      rcases hlocal n hloc with z | z
      · exact absurd z e2
      · exfalso
        exact F.dot (z ▸ List.mem_of_getElem? e1)
    · rw [List.getElem?_append_right hge] at hi
      obtain ⟨a,u,a1,a2,a3⟩:=hts _ n hi
      refine ⟨some a,?_,by rw [a2];exact .some a3⟩
      have hL:(Zdt nm ts).length=V.length:=by simp [Zdt,fr.len]
      rw [hL] at hge a1
      rw [List.getElem?_append_right hge,List.getElem?_map,a1];rfl
  · have hfr:csc.names.lookup n=some .free:=by
      rw [hkd] at hk'
      cases q:csc.names.lookup n with
      | none=>rw [q] at hk';rcases hk' with hk' | hk' <;> cases hk'
      | some k =>
        rw [q] at hk'
        simp only [Option.map_some,Option.some.injEq] at hk'
        split at hk'
        · rename_i z;simp only [Bool.and_eq_true,beq_iff_eq] at z;rw [z.1.1]
        · rcases hk' with hk' | hk'
          · exact absurd (q.trans (by rw [hk'])) (hnc n)
          · rw [hk']
    rcases Nat.lt_or_ge i (Zdt nm ts).length with hlt | hge
    · rw [List.getElem?_append_left hlt] at hi
      obtain ⟨e1,e2⟩:=Zkj hi (hlen n _ hfr)
      obtain ⟨k1,_⟩:=hfree n hfr
      obtain ⟨a,x,v,c1,c2,c3,c4⟩:=fr.cell i n e1 (.inl k1)
      obtain ⟨a',d1,d2⟩:=hcell n hfr
      rw [c1] at d1;cases d1
      have hlt':i < V.length:=(List.getElem?_eq_some_iff.mp c3).1
      exact ⟨a,x,v,d2,hk _ _ c2,by rw [List.getElem?_append_left hlt'];exact c3,c4⟩
    · rw [List.getElem?_append_right hge] at hi
      have:=F.loc n (List.mem_of_getElem? hi)
      rw [hfr] at this;cases this
end Mine
end
section
open PySem PySem.W PyProof.Rows PySem.Spec PySem.SeqAt PySem.Calls
namespace Mine
section
variable {c:Cx} {R:RR} {H:Zaa} {A:Around} {E:Value→Shared→Prop} {s:Shared}
theorem Zwo {v:AV} {k:Nat} {a:Addr} {o:Obj} {Q:Value→Shared→Prop} (hi:ItObj H v k o) (ho:s.heap.get? a=some o) (q:Q (.ref a) s):wpAny (model c.prog c.w) A (pyIter (.ref a)) Q E s:=by
  cases v with
  | ref p =>
    simp only [ItObj] at hi
    split at hi
    · exact wpAny_pyIter_listiter ⟨o,ho,hi.1,hi.2⟩ q
    · exact wpAny_pyIter_tupleiter ⟨o,ho,hi.1,hi.2⟩ q
    · subst hi;exact wpAny_pyIter_rangeiter ho q
    · exact hi.elim
  | str y =>
    obtain ⟨t,hc,hd⟩:=hi
    rcases hc with hc | hc
    · exact wpAny_pyIter_striter_ascii ⟨o,ho,hc,hd⟩ q
    · exact wpAny_pyIter_striter_wide ⟨o,ho,hc,hd⟩ q
  | none=>exact hi.elim
  | bool b=>exact hi.elim
  | int i=>exact hi.elim
theorem St1.give {h h':Heap} {x:Addr} {r₀:Res} {ao:AObj} (S:St1 c R H h) (hx:R x=some r₀) (hs:Heap.SameBut x h h') (hni:∀ cl es,ao≠.inst cl es) (ho:∀ D,ORep c h' D x ao):H x=none∧St1 c (Zcm R x) (up H x ao) h':=by
  have bx:c.base.objs.size≤x:=(S.res x _ hx).1
  obtain ⟨s1,s2,s3,D,s4⟩:=S.dropAny hx hs.extBut (by rw [hs.1];exact S.size)
  obtain ⟨D₀,s40⟩:=S.rep
  have hHx:H x=none:=by
    cases q:H x with
    | none=>rfl
    | some o=>have:=(s40.above x o q).2;rw [hx] at this;cases this
  have hD:∀ a cl es,H a=some (.inst cl es)→D a≠x:=fun a cl es e z=>by
    have hax:a≠x:=fun w=>by rw [w,hHx] at e;cases e
    obtain ⟨e1,ents,n,e2,_⟩:=s4.rep a _ e
    obtain ⟨p1,ents',n',p2,_⟩:=s40.rep a _ e
    rw [hs.2 a hax] at e1
    rw [p1] at e1
    have hd:D₀ a=D a:=by injection e1 with e1;injection e1 with _ z;exact Option.some.inj z
    have:=(s40.dict a cl es e).2.1
    rw [hd,z,hx] at this;cases this
  refine ⟨hHx,s1,s2,s3,D,⟨fun a o e=>?_,fun a o e=>?_,fun a cl es e=>?_,fun a b cl es cl' es' e e'=>?_⟩⟩
  · by_cases q:a=x
    · subst q;rw [Zad] at e;cases e;exact ho D
    · rw [Zab q] at e;exact s4.rep a o e
  · by_cases q:a=x
    · subst q;exact ⟨abv bx,Zb8⟩
    · rw [Zab q] at e;exact s4.above a o e
  · by_cases q:a=x
    · subst q;rw [Zad] at e;cases e;exact absurd rfl (hni cl es)
    · rw [Zab q] at e
      obtain ⟨y1,y2,y3⟩:=s4.dict a cl es e
      exact ⟨y1,y2,by rw [Zab (hD a cl es e)];exact y3⟩
  · by_cases q:a=x
    · subst q;rw [Zad] at e;cases e;exact absurd rfl (hni cl es)
    · by_cases q':b=x
      · subst q';rw [Zad] at e';cases e';exact absurd rfl (hni cl' es')
      · rw [Zab q] at e;rw [Zab q'] at e';exact s4.inj a b cl es cl' es' e e'
end
theorem St.give {h h':Heap} {x:Addr} {r₀:Res} {ao:AObj} (S:St c R H h) (hx:R x=some r₀) (hs:Heap.SameBut x h h') (hni:∀ cl es,ao≠.inst cl es) (ho:∀ D,ORep c h' D x ao) (hb:ao.isB=false:=by rfl):H x=none∧St c (Zcm R x) (up H x ao) h':=by
  obtain ⟨H₁,s,r⟩:=S
  obtain ⟨e,s'⟩:=s.give hx hs hni ho
  exact ⟨r.none e,_,s',r.put hb (.inl e)⟩
noncomputable def XOk (g:Gx) (sc:Scope) (nm:List Str) (x:X) (e:PySem.Expr):Prop :=
  ∀ (A:Around) (R:RR) (V:VV) (env:Env) (e₀:Env) (l₀:List Env) (s0:Shared),Ev g A R e₀ l₀→Frm R env sc nm V→HX g A R V s0 x (eval e env)∧HT g A R V s0 x (isTrue e env (eval e env))
noncomputable def RC (R:RR) (a D C:Addr) (o l:Obj) (m:Str→Option Value):RR:=rup (rup (rup R a (.obj o)) D (.obj l)) C (.ns m)
theorem Zmf {g:Gx} {R:RR} {s0:Shared} {e:Value} {s':Shared} {P:Prop} (h:TE g R s0 (fun _ _=>False) e s'):P:=by
  obtain ⟨_,_,_,_,_,_,h⟩:=h;exact h.elim
theorem Zuf {R R':RR} {l:List Env} (h:Stk R l) (k:∀ b r,R b=some r→R' b=some r):Stk R' l:=fun e he=>by
  have F:=h e he
  obtain ⟨m,hm⟩:=F.ns
  exact ⟨F.kind,F.frame,F.gen,F.co,F.blt,F.glob,m,k _ _ hm⟩
inductive Zev (g:Gx) (sc:Scope) (nm:List Str):Option X→List PySem.Expr→Prop
  | nil:Zev g sc nm none []
  | one {x e}:XOk g sc nm x e→Zev g sc nm (some x) [e]
section
variable {g:Gx} {A:Around} {R:RR} {V:VV} {s0:Shared} {env:Env} {mg mb:Str→Option Value} {e₀:Env} {l₀:List Env} {sc csc:Scope} {nm:List Str}
theorem Zr9 {c:Option X} {ifs:List PySem.Expr} {H:Zaa} {s:Shared} {Q:Bool→Zaa→Prop} {E:String→Zaa→Prop} (h:Zev g sc nm c ifs) (ev:Ev g A R e₀ l₀) (fr:Frm R env sc nm V) (S:St g.c R H s.heap) (m:Sm s0 s)
    (q:wpC g c V Q E H):wpAny (model g.c.prog g.c.w) A (forIn ifs true fun c r=>if r=true then do let ok ← isTrue c env (eval c env);pure (ForInStep.yield ok) else pure (ForInStep.yield r)) (TB g R s0 Q) (TE g R s0 E) s:=by
  cases h with
  | nil=>exact wpAny_tests_nil ⟨H,S,m,q⟩
  | one hx =>
    rw [Zbn] at q
    refine wpAny_tests_one (wpAny_mono ((hx A R V env e₀ l₀ s0 ev fr).2 H s (fun _ b H=>Q b H) E S m q) (fun b s' z=>?_) fun _ _ z=>z)
    obtain ⟨v,H',S',m',q',_⟩:=z
    exact ⟨H',S',m',q'⟩
set_option tactic.hygienic true in
theorem Zrt {c:Cx} {R:RR} {H:Zaa} {A:Around} {E:Value→Shared→Prop} {env:Env} {Q:Unit→Shared→Prop} (hp:(env.scope.kind == .class || (env.scope.kind == .module && env.locals != env.globals))=false)
    {es:List PySem.Expr}:∀ {ts:List Str} {ys:List AV} {vs:List Value} {m:Str→Option Value} {s:Shared},Zc7 es ts=true→ts.Nodup→(∀ t∈ts,env.kindOf t=some .local)→VRs ys vs→ys.length=ts.length→St c (rup R env.locals (.ns m)) H s.heap →
    (∀ s' m',(∀ t,t ∉ ts→m' t=m t)→(∀ (j:Nat) t,ts[j]? = some t→∃ a v,ys[j]? = some a∧m' t=some v∧VR a v)→St c (rup R env.locals (.ns m')) H s'.heap→Sm s s'→Q () s')→wpAny (model c.prog c.w) A (assignInOrder ((assignEach es env).map (·.2)) vs) Q E s:=by
  induction es with
  | nil =>
    intro ts ys vs m s h _ _ hv hl S q
    obtain rfl:ts=[]:=List.isEmpty_iff.mp h
    cases hv with
    | nil=>exact wpAny_pure (q s m (fun _ _=>rfl) (fun j t h=>by simp at h) S ⟨_,_,rfl⟩)
    | cons=>cases hl
  | cons e r ih =>
    intro ts ys vs m s h nd hk hv hl S q
    obtain ⟨id,p,ts',rfl,rfl,h1⟩:=Zip h
    obtain ⟨nd1,nd2⟩:=List.nodup_cons.mp nd
    cases hv with
    | nil=>cases hl
    | cons hv1 hvr =>
    rename_i y v ys' vs'
    show wpAny _ A (do holding vs' (assign (.Name id p) env v);assignInOrder ((assignEach r env).map (·.2)) vs') Q E s
    refine wpAny_bind (wpAny_holding (wpAny_assign_Name (wpAny_storeName_local (hk id (.head _)) (S.res _ _ Zaq).2 (fun h₃ hn₃ hs₃=>?_) hp)))
    have S3:=S.setRes (r':=.ns _) Zaq hs₃ hn₃
    rw [Zle] at S3
    refine ih h1 nd2 (fun t ht=>hk t (.tail _ ht)) hvr (Nat.succ.inj hl) S3 fun s' m' k1 k2 S' ms=>q s' m' (fun t ht=>?_) (fun j t hj=>?_) S' (Sm.trans ⟨_,_,rfl⟩ ms)
    · simp only [List.mem_cons,not_or] at ht
      rw [k1 t ht.2];exact if_neg ht.1
    · cases j with
      | zero =>
        cases hj
        exact ⟨y,v,rfl,by rw [k1 id nd1];exact if_pos rfl,hv1⟩
      | succ j=>exact k2 j t hj
set_option tactic.hygienic true in
theorem Zt7 {c:Cx} {R:RR} {H:Zaa} {A:Around} {E:Value→Shared→Prop} {env:Env} {Q:Unit→Shared→Prop} {mg mb:Str→Option Value} {tg:PySem.Expr} {tup:Bool} {ts:List Str} {y:AV} {u:Value} {P:List AV→Prop} {m:Str→Option Value} {s:Shared} (C:c.Ok mg mb) (hh:A.handled=none)
    (hp:(env.scope.kind == .class || (env.scope.kind == .module && env.locals != env.globals))=false) (htg:TgN tg tup ts) (nd:ts.Nodup) (hk:∀ t∈ts,env.kindOf t=some .local) (hu:VR y u) (hw:if tup then Zb4 ts.length y H P else P [y])
    (S:St c (rup R env.locals (.ns m)) H s.heap)
    (q:∀ s' m' ys,P ys→ys.length=ts.length→(∀ (j:Nat) t,ts[j]? = some t→∃ a v,ys[j]? = some a∧m' t=some v∧VR a v)→St c (rup R env.locals (.ns m')) H s'.heap→Sm s s'→Q () s'):wpAny (model c.prog c.w) A (assign tg env u) Q E s:=by
  cases htg with
  | name =>
    refine wpAny_assign_Name (wpAny_storeName_local (hk _ (.head _)) (S.res _ _ Zaq).2 (fun h₃ hn₃ hs₃=>?_) hp)
    have S3:=S.setRes (r':=.ns _) Zaq hs₃ hn₃
    rw [Zle] at S3
    refine q _ _ [y] hw rfl (fun j t hj=>?_) S3 ⟨_,_,rfl⟩
    cases j with
    | zero=>cases hj;exact ⟨y,u,rfl,if_pos rfl,hu⟩
    | succ j=>simp at hj
  | tup h1 =>
    simp only [if_true] at hw
    have hx:∃ p xs,y = .ref p∧(H p=some (.tuple xs)∨H p=some (.list xs))∧xs.length=ts.length∧P xs:=by
      cases y with
      | ref p =>
        dsimp only [Zb4] at hw
        split at hw
        · rename_i xs e;exact ⟨p,xs,rfl,.inl e,hw⟩
        · rename_i xs e;exact ⟨p,xs,rfl,.inr e,hw⟩
        · exact hw.elim
      | _=>exact hw.elim
    obtain ⟨p,xs,rfl,hx,hl,hP⟩:=hx
    cases hu
    obtain ⟨l1,l2⟩:=Zgq (env:=env) h1
    rw [assign_Tuple]
    unfold unpack
    rw [l1,l2,← hl]
    refine wpAny_bind (wpAny_standAt (wpAny_bind (wpAny_holding (Zjs C hh Zaq S hx fun s₁ vs hv S₁ m₁=>?_))))
    exact Zrt hp h1 nd hk hv hl S₁ fun s' m' _ k2 S' ms=>q s' m' xs hP hl k2 S' (m₁.trans ms)
theorem Zz8 {tg:PySem.Expr} {tup:Bool} {ts:List Str} (h:TgN tg tup ts):TgK tg:=by
  cases h with
  | name=>exact .inl ⟨_,_,rfl⟩
  | tup=>exact .inr ⟨_,_,_,rfl⟩
theorem Zrh {prog:Program} {w:World} {R:Result→Shared→Prop} {A:Around} {s:Shared} {elt target iter:PySem.Expr} {ifs:List PySem.Expr} {scope:Scope} {pos:Pos} {it acc:Value} {env:Env} (I:Nat→Shared→Prop)
    (turn:∀ n s,I n s→wpAny (model prog w) A (pyNext it) (fun r s₁=>match r with
      | none=>R (.ok .next) s₁
      | some v=>wpAny (model prog w) A (letOwnedTupleGo target it v) (fun _ s1'=>wpAny (model prog w) A (assign target env v) (fun _ s₂ =>
          wpAny (model prog w) A (forIn ifs true fun c r=>if r=true then do let ok ← isTrue c env (eval c env);pure (ForInStep.yield ok) else pure (ForInStep.yield r)) (fun ok s₃ =>
            if ok=true then wpAny (model prog w) A (eval elt env) (fun x s₄ =>
              wpAny (model prog w) A (call (.builtin "list.append") [acc,x]) (fun _ s5=>∃ m,m < n∧I m s5) (notedBy (model prog w) A env fun e s'=>R (.error e) s') s₄) (notedBy (model prog w) A env fun e s'=>R (.error e) s') s₃
            else ∃ m,m < n∧I m s₃) (notedBy (model prog w) A env fun e s'=>R (.error e) s') s₂) (notedBy (model prog w) A env fun e s'=>R (.error e) s') s1') (notedBy (model prog w) A env fun e s'=>R (.error e) s') s₁) (notedBy (model prog w) A env fun e s'=>R (.error e) s') s)
    (n:Nat) (h:I n s):codeAny (model prog w) A (.compLoop (.ListComp elt [⟨target,iter,ifs,0⟩] scope pos) 0 it acc env) R s:=by
  refine codeAny_loop rfl I (fun n s hI=>?_) n h
  show wpAny _ A ((compTurn (.ListComp elt [⟨target,iter,ifs,0⟩] scope pos) 0 it acc env).onRaise (fun x=>do noteFrame x env;theTreesLotGoes x)) _ _ s
  refine wpAny_noted ?_
  rw [compTurn_list]
  refine wpAny_bind (wpAny_standAt (wpAny_bind (wpAny_mono (turn n s hI) (fun r s₁ h₁=>?_) fun _ _ h'=>h')))
  cases r with
  | none=>exact wpAny_pure h₁
  | some v =>
    refine wpAny_bind (wpAny_mono h₁ (fun _ s1' h1'=>?_) fun _ _ h'=>h')
    refine wpAny_bind (wpAny_mono h1' (fun _ s₂ h₂=>wpAny_bind (wpAny_mono h₂ (fun ok s₃ h₃=>?_) fun _ _ h'=>h')) fun _ _ h'=>h')
    cases ok with
    | false=>exact wpAny_pure ⟨rfl,h₃⟩
    | true =>
      exact wpAny_bind (wpAny_bind (wpAny_mono h₃ (fun x s₄ h₄=>wpAny_bind (wpAny_mono h₄ (fun _ s5 h₅=>wpAny_pure (wpAny_pure ⟨rfl,h₅⟩)) fun _ _ h'=>h')) fun _ _ h'=>h'))
inductive Zz2 (c:Cx) (R:RR) (s0:Shared) (a D C:Addr) (av:AV) (l:Nat) (I:Nat→List AV→Zaa→Prop) (n:Nat) (s:Shared):Prop
  | mk (k:Nat) (o':Obj) (m':Str→Option Value) (vs:List Value) (cnt:Nat) (acc:List AV) (H':Zaa) (hn:n=l - k) (hk:k≤l) (it:ItObj H' av k o') (hv:VRs acc vs) (ha:acc.length≤k) (S:St c (RC R a D C o' (listOf vs.toArray cnt) m') H' s.heap) (m:Sm s0 s) (q:I k acc H'):Zz2 c R s0 a D C av l I n s
theorem Zit {H H':Zaa} {av:AV} {xs:List AV} (h:Zdu H H' av) (e:Zas H av=some xs):Zas H' av=some xs:=by
  cases av with
  | ref a =>
    replace h:H' a=H a:=h
    unfold Zas at e ⊢
    dsimp only at e ⊢
    rw [h];exact e
  | _=>exact e
theorem ItObj.same2 {H H' H'':Zaa} {av:AV} {k:Nat} {o:Obj} (h:ItObj H' av k o) (h1:Zdu H H' av) (h2:Zdu H H'' av):ItObj H'' av k o:=by
  cases av with
  | ref a=>exact h.same (show H'' a=H' a from (show H'' a=H a from h2).trans (show H' a=H a from h1).symm)
  | _=>exact h
section
variable {a D C:Addr} (hDa:D≠a) (hCa:C≠a) (hCD:C≠D) {o o' l l':Obj} {m m':Str→Option Value}
theorem RC_C:RC R a D C o l m C=some (.ns m):=Zaq
include hCD in
theorem RC_D:RC R a D C o l m D=some (.obj l):=by unfold RC;rw [Zag (Ne.symm hCD),Zaq]
theorem RC_sC:rup (RC R a D C o l m) C (.ns m')=RC R a D C o l m':=by
  funext b
  unfold RC
  by_cases q:b=C
  · subst q;rw [Zaq,Zaq]
  · rw [Zag q,Zag q,Zag q]
include hCD in
theorem Z06:rup (RC R a D C o l m) D (.obj l')=RC R a D C o l' m:=by
  funext b
  unfold RC
  by_cases q:b=D
  · subst q;rw [Zaq,Zag hCD.symm,Zaq]
  · rw [Zag q]
    by_cases q2:b=C
    · subst q2;rw [Zaq,Zaq]
    · rw [Zag q2,Zag q2,Zag q,Zag q]
include hDa hCa
theorem RC_a:RC R a D C o l m a=some (.obj o):=by unfold RC;rw [Zag (Ne.symm hCa),Zag (Ne.symm hDa),Zaq]
theorem Z05:rup (RC R a D C o l m) a (.obj o')=RC R a D C o' l m:=by
  funext b
  by_cases q:b=a
  · subst q;rw [Zaq,RC_a hDa hCa]
  · rw [Zag q];unfold RC
    by_cases q2:b=C
    · subst q2;rw [Zaq,Zaq]
    · rw [Zag q2,Zag q2]
      by_cases q3:b=D
      · subst q3;rw [Zaq,Zaq]
      · rw [Zag q3,Zag q3,Zag q,Zag q]
end
theorem Z07 {a D C:Addr} {o l:Obj} {m:Str→Option Value} (ha:R a=none) (hD:R D=none) (hC:R C=none):∀ b r,R b=some r→RC R a D C o l m b=some r:=fun b r e=>by
  have h:∀ {z},R z=none→b≠z:=fun hz q=>by rw [q,hz] at e;cases e
  unfold RC;rw [Zag (h hC),Zag (h hD),Zag (h ha)];exact e
noncomputable def Zxj (g:Gx) (c:Option X) (x:X) (V:VV) (I:Nat→List AV→Zaa→Prop) (k:Nat) (acc:List AV) (H':Zaa) (ys:List AV):Prop:=wpC g c (V ++ ys.map some) (fun b H=>if b then wpX g x (V ++ ys.map some) (fun y H=>I (k + 1) (acc ++ (some y).toList) H) (fun _ _=>False) H else I (k + 1) (acc ++ (none:Option AV).toList) H) (fun _ _=>False) H'
theorem Zri {x:X} {c:Option X} {elt iter tg:PySem.Expr} {ifs:List PySem.Expr} {tup:Bool} {ts:List Str} {pos:Pos} {a D C:Addr} {xs:List AV} {av:AV} {H₀:Zaa} {I:Nat→List AV→Zaa→Prop} {RR':Result→Shared→Prop} {s₁:Shared} {o:Obj} {m₁:Str→Option Value}
    (Ck:g.c.Ok mg mb) (htg:TgN tg tup ts) (hh:A.handled=none) (ev:Ev g A R e₀ l₀) (fr:Frm R env sc nm V) (hm:Zcq sc csc nm ts=true) (hx:XOk g csc (Zdt nm ts ++ ts) x elt) (hc:Zev g csc (Zdt nm ts ++ ts) c ifs)
    (ha:R a=none) (hD:R D=none) (hC:R C=none) (hDa:D≠a) (hCa:C≠a) (hCD:C≠D) (hsv:∀ y,av = .str y→PyData.strOk y=true)
    (hxs:Zas H₀ av=some xs) (hz:xs.length≤sizeLine)
    (step:∀ k acc H',I k acc H'→Zdu H₀ H' av∧∀ y,xs[k]? = some y→if tup then Zb4 ts.length y H' (Zxj g c x V I k acc H') else Zxj g c x V I k acc H' [y])
    (h0:I 0 [] H₀) (ho:ItObj H₀ av 0 o) (S:St g.c (RC R a D C o (listOf #[] 0) m₁) H₀ s₁.heap) (ms:Sm s0 s₁)
    (fin:∀ acc H' s' m',I xs.length acc H'→H' D=none→St g.c (rup R C (.ns m')) (up H' D (.list acc)) s'.heap→Sm s0 s'→RR' (.ok .next) s') :
    codeAny (model g.c.prog g.c.w) A (.compLoop (.ListComp elt [⟨tg,iter,ifs,0⟩] csc pos) 0 (.ref a) (.ref D) (compEnvC csc (Zc9 env csc.names []) C env)) RR' s₁:=by
  have F:=Zes hm
  have hRa:∀ o l m,RC R a D C o l m a=some (.obj o):=fun o l m=>RC_a hDa hCa
  have hRD:∀ o l m,RC R a D C o l m D=some (.obj l):=fun o l m=>RC_D hCD
  have hRC:∀ o l m,RC R a D C o l m C=some (.ns m):=fun o l m=>RC_C
  have hle:∀ o l m b r,R b=some r→RC R a D C o l m b=some r:=fun o l m=>Z07 ha hD hC
  refine Zrh (Zz2 g.c R s0 a D C av xs.length I) ?_ xs.length
    ⟨0,o,m₁,[],0,[],H₀,rfl,Nat.zero_le _,ho,.nil,Nat.le_refl _,S,ms,h0⟩
  rintro n s ⟨k,o',m',vs,cnt,acc,H',rfl,hk,hio,hvs,hacc,S',ms',hI⟩
  obtain ⟨hsame,hstep⟩:=step k acc H' hI
  have hxs':=Zit hsame hxs
  cases hky:xs[k]? with
  | none =>
    have hkl:k=xs.length:=by have:=List.getElem?_eq_none_iff.mp hky;omega
    refine Zqp hh hxs' hky hio (hRa _ _ _) (hRC _ _ _) S' fun s₂ S2 m₂=>?_
    have hD₂:Zcm (RC R a D C o' (listOf vs.toArray cnt) m') a D=some (.obj (listOf vs.toArray cnt)):=by rw [Za2 hDa];exact hRD _ _ _
    obtain ⟨hd,S3⟩:=S2.give (ao:=.list acc) hD₂ ⟨rfl,fun _ _=>rfl⟩ (by intro _ _ z;cases z) fun _=>⟨vs,cnt,(S2.res _ _ hD₂).2,hvs⟩
    subst hkl
    refine fin acc H' s₂ m' hI hd (S3.weaken fun b r e=>?_) (ms'.trans m₂)
    by_cases q:b=C
    · subst q;rw [Zaq] at e;cases e;rw [Za2 hCD,Za2 hCa];exact hRC _ _ _
    · rw [Zag q] at e
      have h1:b≠a:=fun z=>by rw [z,ha] at e;cases e
      have h2:b≠D:=fun z=>by rw [z,hD] at e;cases e
      rw [Za2 h2,Za2 h1];exact hle _ _ _ _ _ e
  | some y =>
    have hlt:k < xs.length:=(List.getElem?_eq_some_iff.mp hky).1
    refine Zlz hxs' hky hio (hRa _ _ _) S' hsv fun s₂ u o₂ hu ho2 S2 m₂=>?_
    rw [Z05 hDa hCa] at S2
    have hw:=hstep y hky
    refine Zmn (Zz8 htg) ho2 ((S2.res _ _ (hRa _ _ _)).2) ?_
    have hRR:RC R a D C o₂ (listOf vs.toArray cnt) m'=rup (RC R a D C o₂ (listOf vs.toArray cnt) m') (compEnvC csc (Zc9 env csc.names []) C env).locals (.ns m'):=RC_sC.symm
    rw [hRR] at S2
    refine Zt7 (P:=Zxj g c x V I k acc H') Ck hh (by simp [compEnvC,relabel,F.kind]) htg F.nd (fun t ht=>lookup_relabel_local (F.loc t ht)) hu hw S2 fun s₃ m3 ys hw hyl hys S3 ms3=>?_
    rw [show rup (RC R a D C o₂ (listOf vs.toArray cnt) m') (compEnvC csc (Zc9 env csc.names []) C env).locals (.ns m3)=RC R a D C o₂ (listOf vs.toArray cnt) m3 from RC_sC] at S3
    have ev':∀ o l m,Ev g A (RC R a D C o l m) e₀ l₀:=fun o l m=>⟨ev.aok,Zuf ev.stk (hle o l m)⟩
    have fr':∀ o l,Frm (RC R a D C o l m3) (compEnvC csc (Zc9 env csc.names []) C env) csc (Zdt nm ts ++ ts) (V ++ ys.map some):=fun o l =>
      fr.inner (xv:=ys) hm (hRC _ _ _) (hle _ _ _) hyl hys
    refine wpAny_mono (Zr9 hc (ev' _ _ _) (fr' _ _) S3 ((ms'.trans m₂).trans ms3) hw) (fun ok s₄ z=>?_) fun _ _ z=>Zmf z
    obtain ⟨H₄,S4,m4,q₄⟩:=z
    cases ok with
    | false =>
      simp only [Bool.false_eq_true,if_false,Option.toList_none,List.append_nil] at q₄ ⊢
      have hs4:=(step _ _ _ q₄).1
      exact ⟨xs.length - (k + 1),by omega,k + 1,o₂,_,vs,cnt,acc,H₄,rfl,hlt,ho2.same2 hsame hs4,hvs,by omega,S4,m4,q₄⟩
    | true =>
      simp only [if_true] at q₄ ⊢
      refine wpAny_mono ((hx A _ _ _ e₀ l₀ s0 (ev' _ _ _) (fr' _ _)).1 H₄ s₄ _ _ S4 m4 q₄) (fun w s5 z=>?_) fun _ _ z=>Zmf z
      obtain ⟨bv,H₅,hw5,S₅,m5,q5⟩:=z
      have hs5:=(step _ _ _ q5).1
      have hsz:vs.length≤sizeLine:=by have:=hvs.length;omega
      refine append_at (S₅.res _ _ (hRD _ _ _)).2 (fun h₆ hs6 ho6=>?_) (by simpa using hsz)
      have S6:=S₅.setRes (r':=.obj (listOf (vs ++ [w]).toArray (cnt + 1))) (hRD _ _ _) hs6 (by show h₆.get? D=_;rw [ho6];simp [W.listOf])
      rw [Z06 hCD] at S6
      exact ⟨xs.length - (k + 1),by omega,k + 1,o₂,_,vs ++ [w],cnt + 1,acc ++ [bv],H₅,rfl,hlt,ho2.same2 hsame hs5,hvs.append (.one hw5),by simp;omega,S6,m5.heap _,q5⟩
theorem Zky {ts:List Str} (fr:Frm R env sc nm V) (hm:Zcq sc csc nm ts=true):closureFor csc env=pure (Zc9 env csc.names []):=by
  refine Zjp fun p hp hk=>?_
  have z:=(Zes hm).free p hp hk
  obtain ⟨i,hi⟩:=List.mem_iff_getElem?.mp z.1.2
  obtain ⟨a,x,v,c1,_⟩:=fr.cell i p.1 hi (.inl (fr.cco _ z.1.1))
  exact ⟨a,c1⟩
theorem Zh0 {ts:List Str} (hm:Zcq sc csc nm ts=true):csc.kind = .function∧(∀ y∈csc.names,y.2≠.cell)∧∀ y∈csc.names,y.2 = .local→csc.names.lookup y.1=some .local :=
  have F:=Zes hm
  ⟨F.kind,F.cell,fun y hy hk=>(F.lcl y hy hk).1⟩
set_option tactic.hygienic true in
theorem Ziz {x:X} {c:Option X} {elt iter tg:PySem.Expr} {ifs:List PySem.Expr} {tup:Bool} {ts:List Str} {pos:Pos} {xs:List AV} {av:AV} {u:Value} {H₀:Zaa} {I:Nat→List AV→Zaa→Prop} {RR':Value→Addr→Result→Shared→Prop} {s₁:Shared} {E:Value→Shared→Prop}
    (Ck:g.c.Ok mg mb) (htg:TgN tg tup ts) (hh:A.handled=none) (ev:Ev g A R e₀ l₀) (fr:Frm R env sc nm V) (hm:Zcq sc csc nm ts=true) (hx:XOk g csc (Zdt nm ts ++ ts) x elt) (hc:Zev g csc (Zdt nm ts ++ ts) c ifs)
    (hv:VR av u) (S:St g.c R H₀ s₁.heap) (ms:Sm s0 s₁) (hxs:Zas H₀ av=some xs) (hz:xs.length≤sizeLine) (h0:I 0 [] H₀)
    (step:∀ k acc H',I k acc H'→Zdu H₀ H' av∧∀ y,xs[k]? = some y→if tup then Zb4 ts.length y H' (fun ys=>wpC g c (V ++ ys.map some) (fun b H=>if b then wpX g x (V ++ ys.map some) (fun y H=>I (k + 1) (acc ++ (some y).toList) H) (fun _ _=>False) H else I (k + 1) (acc ++ (none:Option AV).toList) H) (fun _ _=>False) H') else wpC g c (V ++ [some y]) (fun b H=>if b then wpX g x (V ++ [some y]) (fun y H=>I (k + 1) (acc ++ (some y).toList) H) (fun _ _=>False) H else I (k + 1) (acc ++ (none:Option AV).toList) H) (fun _ _=>False) H')
    (fin:∀ D Ca acc H' s' m',R Ca=none→I xs.length acc H'→H' D=none→St g.c (rup R Ca (.ns m')) (up H' D (.list acc)) s'.heap→Sm s0 s'→RR' (.ref D) Ca (.ok .next) s') :
    wpAny (model g.c.prog g.c.w) A (pyIter u) (fun it s₂=>wpAny (model g.c.prog g.c.w) A (newList []) (fun acc s₃=>wpAny (model g.c.prog g.c.w) A (newFunctionEnv csc env.globals (Zc9 env csc.names []) [] env.qual none .none (some env)) (fun cenv s₄ =>
      codeAny (model g.c.prog g.c.w) A (.compStart (.ListComp elt [⟨tg,iter,ifs,0⟩] csc pos) 0 it acc { cenv with scope:=relabel csc env }) (RR' acc cenv.locals) s₄) E s₃) E s₂) E s₁:=by
  obtain ⟨hkind,hcell,_⟩:=Zh0 hm
  have hsv:∀ y,av = .str y→PyData.strOk y=true:=by rintro y rfl;cases hv;assumption
  refine Zqo Ck hv S hxs fun s₂ a o ha hHa ho S2 m₂=>?_
  refine wpAny_newObj_type (wpAny_newFunctionEnv hcell (by intro y hy;simp at hy) (fun h₁ hns1 hsb1=>?_) hkind)
  dsimp only at hns1 hsb1 ⊢
  obtain ⟨hD1,hD2,S3⟩:=S2.newRes (x:=s₂.heap.objs.size) (r:=.obj (listOf #[] 0)) (h':=s₂.heap.push { cls:=.type "list",dict:=none,data:=.seq ([]:List Value).toArray }) (Nat.le_refl _) (fun _ _ z=>Heap.get?_push_of_some _ z) (by rw [Heap.size_push];omega) (Heap.get?_push_size _ rfl)
  generalize hH2:s₂.heap.push { cls:=.type "list",dict:=none,data:=.seq ([]:List Value).toArray } = H2 at hns1 hsb1 S3 ⊢
  obtain ⟨hC1,hC2,S4⟩:=S3.newRes (x:=H2.objs.size) (r:=.ns _) (h':=h₁) (Nat.le_refl _) (fun b ob z=>hsb1.extBut b ob (Nat.ne_of_lt (Heap.lt_size z)) (Heap.get?_push_of_some _ z)) (by rw [hsb1.1,Heap.size_push];omega) hns1
  generalize s₂.heap.objs.size=D at hD1 hD2 S3 S4 hC1 ⊢
  generalize H2.objs.size=Ca at hC1 hC2 S4 hns1 hsb1 ⊢
  have hDa:D≠a:=fun z=>by rw [z,Zaq] at hD1;cases hD1
  have hCD:Ca≠D:=fun z=>by rw [z,Zaq] at hC1;cases hC1
  rw [Zag hCD] at hC1
  have hCa:Ca≠a:=fun z=>by rw [z,Zaq] at hC1;cases hC1
  rw [Zag hCa] at hC1
  rw [Zag hDa] at hD1
  have loop:∀ s₃:Shared,s₃ = { s₂ with heap:=h₁,toks:=s₂.toks + ([]:List (Str×Value)).length } →
      codeAny (model g.c.prog g.c.w) A (.compLoop (.ListComp elt [⟨tg,iter,ifs,0⟩] csc pos) 0 (.ref a) (.ref D) (compEnvC csc (Zc9 env csc.names []) Ca env)) (RR' (.ref D) Ca) s₃:=by
    rintro s₃ rfl
    exact Zri Ck htg hh ev fr hm hx hc ha hD1 hC1 hDa hCa hCD hsv hxs hz step h0 ho S4 ((ms.trans m₂).step _ _) fun acc H' s' m' h1 h2 h3 h4=>fin D Ca acc H' s' m' hC1 h1 h2 h3 h4
  refine codeAny_compStart_list (loop _ rfl) (Zwo ho ?_ (loop _ rfl))
  refine (S4.res a (.obj o) ?_).2
  rw [Zag (Ne.symm hCa),Zag (Ne.symm hDa),Zaq]
theorem Zwv {x it:X} {c:Option X} {elt iter tg:PySem.Expr} {ifs:List PySem.Expr} {tup:Bool} {ts:List Str} {pos:Pos} (Ck:g.c.Ok mg mb) (htg:TgN tg tup ts) (ev:Ev g A R e₀ l₀) (fr:Frm R env sc nm V) (hm:Zcq sc csc nm ts=true)
    (hf:∀ x,foldedSetIterable iter env x=pure x) (hit:HX g A R V s0 it (eval iter env)) (hx:XOk g csc (Zdt nm ts ++ ts) x elt) (hc:Zev g csc (Zdt nm ts ++ ts) c ifs) :
    HX g A R V s0 (.comp x ts.length tup it c) (eval (.ListComp elt [⟨tg,iter,ifs,0⟩] csc pos) env):=fun H s Q E S m q=>by
  dsimp only [Zah,Zae,Zau,Zbq,Zbb,x_ao,Zap,Za1,Zar,Zav,Za0,Zam,Zak,x_bm,Zbo,Zaw,Zbc,Zcl,Zao,Za7,Za3,Zbg,Za8] at q
  obtain ⟨hmd,q⟩:=q
  rw [eval_ListComp]
  refine wpAny_comprehension_free (use:=none) rfl hf (Zky fr hm) (Zh0 hm).1 (Zh0 hm).2.2 ?_
  refine wpAny_mono (hit H s _ E S m q) (fun u s₁ z=>?_) fun _ _ z=>z
  obtain ⟨av,H₁,hv,S₁,m₁,xs,hxs,hz,I,hI,hstep⟩:=z
  refine Ziz (I:=I) (RR':=fun acc Ca=>compPost (model g.c.prog g.c.w) A (TE g R s0 E) none (TQ g R s0 Q) acc Ca) Ck htg (ev.aok.hand hmd) ev fr hm hx hc hv S₁ m₁ hxs hz hI (fun k acc H' hi=>⟨(hstep k acc H' hi).1,(hstep k acc H' hi).2.2⟩) ?_
  intro D Ca acc H' s' m' hCa hi hd S' ms'
  refine ⟨m',(S'.res Ca _ Zaq).2,fun h' hs'=>?_⟩
  refine ⟨.ref D,up H' D (.list acc),.ref D,(S'.dropAny (Zaq) hs'.extBut (by rw [hs'.1];exact S'.size)).weaken fun b r e=>?_,ms'.heap _,(hstep _ acc H' hi).2.1 rfl D hd⟩
  have hb:b≠Ca:=fun z=>by rw [z,hCa] at e;cases e
  rw [Za2 hb,Zag hb];exact e
theorem Ztm {k v:X} {ke ve:PySem.Expr} {pos:Pos} (ev:Ev g A R e₀ l₀) (fr:Frm R env sc nm V) (hk:XOk g sc nm k ke) (hv:XOk g sc nm v ve):HX g A R V s0 (.dict [k] [v]) (eval (.Dict [some ke] [ve] pos) env):=fun H s Q E S m q=>by
  dsimp only [Zah,Zae,Zau,Zbq,Zbb,x_ao,Zap,Za1,Zar,Zav,Za0,Zam,Zak,x_bm,Zbo,Zaw,Zbc,Zcl,Zao,Za7,Za3,Zbg,Za8] at q
  refine wpAny_Dict_walk (knd:=strKind g.c.prog g.c.w) rfl rfl (by simp) (by simp) ?_
  obtain ⟨hR,hH,S₁⟩:=S.newRes (x:=s.heap.objs.size) (r:=.obj { cls:=.type "dict",data:=.dict #[] }) (h':=s.heap.push { cls:=.type "dict",data:=.dict #[] }) (Nat.le_refl _) (fun _ _ z=>Heap.get?_push_of_some _ z) (by rw [Heap.size_push];omega) (Heap.get?_push_size _ rfl)
  generalize s.heap.objs.size=d at hR hH S₁ ⊢
  generalize s.heap.push { cls:=.type "dict",data:=.dict #[] } = h₁ at S₁ ⊢
  have hle:∀ b r,R b=some r→rup R d (.obj { cls:=.type "dict",data:=.dict #[] }) b=some r:=fun b r e=>by
    rw [Zag (fun z=>by rw [z,hR] at e;cases e)];exact e
  have ev':Ev g A (rup R d (.obj { cls:=.type "dict",data:=.dict #[] })) e₀ l₀:=⟨ev.aok,Zuf ev.stk hle⟩
  have fr':Frm (rup R d (.obj { cls:=.type "dict",data:=.dict #[] })) env sc nm V:=fr.congr fun b hb=>Zag fun z=>by
    rw [z] at hb;rcases hb with ⟨_,hb⟩ | ⟨_,hb⟩ <;> (rw [hR] at hb;cases hb)
  have te:∀ {e:Value} {s':Shared},TE g (rup R d (.obj { cls:=.type "dict",data:=.dict #[] })) s0 E e s'→TE g R s0 E e s':=by
    rintro e s' ⟨a,cl,H',e1,X,ms,q⟩;exact ⟨a,cl,H',e1,X.weaken hle,ms,q⟩
  refine pairTrees_cons_walk (wpAny_mono ((hk A _ V env e₀ l₀ s0 ev' fr').1 H _ _ E S₁ (m.heap _) q) (fun kv s₂ z=>?_) fun _ _ z=>te z)
  obtain ⟨ka,H₂,hka,S2,m₂,q₂⟩:=z
  refine wpAny_mono ((hv A _ V env e₀ l₀ s0 ev' fr').1 H₂ _ _ E S2 m₂ q₂) (fun vv s₃ z=>?_) fun _ _ z=>te z
  obtain ⟨va,H₃,hva,S3,m3,q₃⟩:=z
  refine pairTrees_nil_walk ?_
  cases hka with
  | str ks tk hok =>
    dsimp only at q₃
    have hd₃:s₃.heap.get? d=some { cls:=.type "dict",data:=.dict #[] }:=(S3.res d _ Zaq).2
    refine ⟨[(ks,vv)],⟨?_,rfl,trivial⟩,⟨_,#[],0,hd₃,⟨rfl,rfl,rfl⟩,rfl,fun _ h=>by simp at h,.nil,List.nodup_nil⟩,fun h' hd hs=>?_⟩
    · exact strKind_is _ _ ks tk
    · obtain ⟨o',es',ep,hda⟩:=hd
      obtain ⟨hn,S4⟩:=S3.give (h':=h') (ao:=.dict ep [(ks,va)]) Zaq hs (by intro _ _ z;cases z) fun _=>⟨[(ks,vv)],⟨o',es',hda⟩,.cons hok hva .nil⟩
      refine ⟨.ref d,_,.ref d,S4.weaken fun b r e=>?_,m3.step _ _,q₃ d ep hn⟩
      have hb:b≠d:=fun z=>by rw [z,hR] at e;cases e
      rw [Za2 hb,Zag hb];exact e
  | none=>exact q₃.elim
  | bool=>exact q₃.elim
  | int=>exact q₃.elim
  | ref=>exact q₃.elim
end
end Mine
end
section
open PySem PySem.W PyProof.Rows PySem.Spec PySem.SeqAt PySem.Calls
namespace Mine
section
variable {g:Gx} {mg mb:Str→Option Value} (C:g.c.Ok mg mb) (PO:PgOk g.c)
theorem Ze6 {sc:Scope} {nm:List Str} {xs:List X} {es:List PySem.Expr} {A:Around} {R:RR} {V:VV} {env:Env} {e₀:Env} {l₀:List Env} {s0:Shared} (h:Each (fun x e=>XOk g sc nm x e∧Zc1 e=true) xs es) (ev:Ev g A R e₀ l₀) (fr:Frm R env sc nm V) :
    Ze7 g A R V s0 env xs es:=by
  induction h with
  | nil=>exact .nil
  | cons a _ ih=>exact .cons ⟨(a.1 A R V env e₀ l₀ s0 ev fr).1,a.2⟩ ih
theorem Zt0 {sc:Scope} {nm:List Str} {xs:List X} {es:List PySem.Expr} {A:Around} {R:RR} {V:VV} {env:Env} {e₀:Env} {l₀:List Env} {s0:Shared} (h:Each (fun x e=>XOk g sc nm x e∧Zc1 e=true) xs es) (ev:Ev g A R e₀ l₀) (fr:Frm R env sc nm V) :
    Each (fun x e=>HX g A R V s0 x (eval e env)) xs es:=by
  induction h with
  | nil=>exact .nil
  | cons a _ ih=>exact .cons (a.1 A R V env e₀ l₀ s0 ev fr).1 ih
theorem Ztz {sc:Scope} {nm:List Str} {xs:List X} {es:List PySem.Expr} {A:Around} {R:RR} {V:VV} {env:Env} {e₀:Env} {l₀:List Env} {s0:Shared} (h:Each (fun x e=>XOk g sc nm x e∧Zc1 e=true) xs es) (ev:Ev g A R e₀ l₀) (fr:Frm R env sc nm V) :
    Each (fun x e=>HT g A R V s0 x (isTrue e env (eval e env))) xs es:=by
  induction h with
  | nil=>exact .nil
  | cons a _ ih=>exact .cons (a.1 A R V env e₀ l₀ s0 ev fr).2 ih
theorem XOk.of {sc:Scope} {nm:List Str} {x:X} {e:PySem.Expr} (h:∀ (A:Around) (R:RR) (V:VV) (env:Env) (e₀:Env) (l₀:List Env) (s0:Shared),Ev g A R e₀ l₀→Frm R env sc nm V→HX g A R V s0 x (eval e env))
    (he:∀ env whole,isTrue e env whole=(do let v ← whole;standAt e.pos;holding [v] (truthy v))):XOk g sc nm x e:=fun A R V env e₀ l₀ s0 ev fr =>
  ⟨h A R V env e₀ l₀ s0 ev fr,HT.plain (h A R V env e₀ l₀ s0 ev fr) (he _ _)⟩
theorem Zf5 {iter:PySem.Expr} {env:Env} (h:Zio iter=true) (x:Value):foldedSetIterable iter env x=pure x:=by
  cases iter <;> first | rfl | exact Bool.noConfusion h
include C PO in
mutual
theorem sX:∀ (x:X) (e:PySem.Expr) (top:Bool) (sc:Scope) (nm:List Str),mtX g.c.P top sc nm x e=true→XOk g sc nm x e
  | .lit v,e,top,sc,nm,h=>Zhq (m:=XOk g sc nm (.lit v)) h fun _ _ _ h=>.of (fun _ _ _ _ _ _ _ _ _=>Zzf h) fun _ _=>rfl
  | .var i,e,top,sc,nm,h=>Zs8 (m:=XOk g sc nm (.var i)) h fun _ _ h1 h2 h3=>.of (fun _ _ _ _ _ _ _ _ fr=>Zza fr h1 h2 h3) fun _ _=>rfl
  | .glob n,e,top,sc,nm,h=>Zmq (m:=XOk g sc nm (.glob n)) h fun _ _ h=>.of (fun _ _ _ _ _ _ _ _ fr=>Zwu C PO fr h) fun _ _=>rfl
  | .bin op a b,e,top,sc,nm,h=>Zte (m:=XOk g sc nm (.bin op a b)) h fun l r p h1 h2 =>
    .of (fun A R V env e₀ l₀ s0 ev fr=>Zzj C ev (sX a l top sc nm h1 A R V env e₀ l₀ s0 ev fr).1 (sX b r top sc nm h2 A R V env e₀ l₀ s0 ev fr).1) fun _ _=>rfl
  | .neg a,e,top,sc,nm,h=>Ztb (m:=XOk g sc nm (.neg a)) h fun l p h=>.of (fun A R V env e₀ l₀ s0 ev fr=>Zze (sX a l top sc nm h A R V env e₀ l₀ s0 ev fr).1) fun _ _=>rfl
  | .not a,e,top,sc,nm,h=>Zta (m:=XOk g sc nm (.not a)) h fun l p h A R V env e₀ l₀ s0 ev fr=>have z:=sX a l top sc nm h A R V env e₀ l₀ s0 ev fr;⟨Zzc z.1,Zzk z.2⟩
  | .ao isAnd xs,e,top,sc,nm,h=>Zwj (m:=XOk g sc nm (.ao isAnd xs)) h fun vs p h A R V env e₀ l₀ s0 ev fr=>have z:=sXs xs vs top sc nm h;⟨Z0x (Zt0 z ev fr),Z0y (Ztz z ev fr)⟩
  | .cmp op a b,e,top,sc,nm,h=>Ztd (m:=XOk g sc nm (.cmp op a b)) h fun l r p h0 h1 h2 A R V env e₀ l₀ s0 ev fr =>
    have z1:=sX a l top sc nm h1 A R V env e₀ l₀ s0 ev fr;have z2:=sX b r top sc nm h2 A R V env e₀ l₀ s0 ev fr;⟨Zzi C ev h0 z1.1 z2.1,Zzl C ev h0 z1.1 z2.1⟩
  | .cmp2 op1 op2 a b d,e,top,sc,nm,h=>Zqf (m:=XOk g sc nm (.cmp2 op1 op2 a b d)) h fun l r₁ r₂ p h0 h1 h2 h3 A R V env e₀ l₀ s0 ev fr =>
    have z1:=sX a l top sc nm h1 A R V env e₀ l₀ s0 ev fr;have z2:=sX b r₁ top sc nm h2 A R V env e₀ l₀ s0 ev fr;have z3:=sX d r₂ top sc nm h3 A R V env e₀ l₀ s0 ev fr;⟨Zww C ev h0 z1.1 z2.1 z3.1,Zwz C ev h0 z1.1 z2.1 z3.1⟩
  | .sub a i,e,top,sc,nm,h=>Zmu (m:=XOk g sc nm (.sub a i)) h fun v sl p h0 h1 h2 =>
    .of (fun A R V env e₀ l₀ s0 ev fr=>Zzb C h0 (sX a v top sc nm h1 A R V env e₀ l₀ s0 ev fr).1 (sX i sl top sc nm h2 A R V env e₀ l₀ s0 ev fr).1) fun _ _=>rfl
  | .slice a lo hi st,e,top,sc,nm,h=>Zoa (m:=XOk g sc nm (.slice a lo hi st)) h fun v l u t p q h0 h1 h2 h3 =>
    .of (fun A R V env e₀ l₀ s0 ev fr=>Ztl (sX a v top sc nm h0 A R V env e₀ l₀ s0 ev fr).1 (sO lo l top sc nm h1 A R V env e₀ l₀ s0 ev fr) (sO hi u top sc nm h2 A R V env e₀ l₀ s0 ev fr) (sO st t top sc nm h3 A R V env e₀ l₀ s0 ev fr)) fun _ _=>rfl
  | .attr a n,e,top,sc,nm,h=>Zqh (m:=XOk g sc nm (.attr a n)) h fun v p h1 h2=>.of (fun A R V env e₀ l₀ s0 ev fr=>Zwy C PO h1 (sX a v top sc nm h2 A R V env e₀ l₀ s0 ev fr).1) fun _ _=>rfl
  | .call f xs,e,top,sc,nm,h=>Zfn (m:=XOk g sc nm (.call f xs)) h fun fe as p h0 h1 h2=>.of (fun _ _ _ _ _ _ _ ev fr=>Zwx C PO ev fr h0 h1 (Ze6 (sXs xs as top sc nm h2) ev fr)) fun _ _=>rfl
  | .new f xs,e,top,sc,nm,h=>Zfn (m:=XOk g sc nm (.new f xs)) h fun fe as p h0 h1 h2=>.of (fun _ _ _ _ _ _ _ ev fr=>Zzd C PO ev fr h0 h1 (Ze6 (sXs xs as top sc nm h2) ev fr)) fun _ _=>rfl
  | .meth a m xs,e,top,sc,nm,h=>Zkf (m:=XOk g sc nm (.meth a m xs)) h fun o _ as _ h1 h2 h3 h4 h5=>.of (fun A R V env e₀ l₀ s0 ev fr=>Zws C PO ev h2 h1 h3 (sX a o top sc nm h4 A R V env e₀ l₀ s0 ev fr).1 (Ze6 (sXs xs as top sc nm h5) ev fr)) fun _ _=>rfl
  | .bm a m xs,e,top,sc,nm,h=>Zkf (m:=XOk g sc nm (.bm a m xs)) h fun o _ as _ h1 h2 h3 h4 h5=>.of (fun A R V env e₀ l₀ s0 ev fr=>Z0w C ev h2 h1 h3 (sX a o top sc nm h4 A R V env e₀ l₀ s0 ev fr).1 (Ze6 (sXs xs as top sc nm h5) ev fr)) fun _ _=>rfl
  | .prim f xs,e,top,sc,nm,h=>Zfn (m:=XOk g sc nm (.prim f xs)) h fun fe as p h0 h1 h2=>.of (fun _ _ _ _ _ _ _ ev fr=>Zwr C PO ev fr h0 h1 (Ze6 (sXs xs as top sc nm h2) ev fr)) fun _ _=>rfl
  | .isinst a ty,e,top,sc,nm,h=>Ztc (m:=XOk g sc nm (.isinst a ty)) h fun fe x t p hs h0 h1 h2 h3 h4=>.of (fun A R V env e₀ l₀ s0 ev fr=>Zqw C PO fr h0 h1 h2 h3 (sX a x top sc nm h4 A R V env e₀ l₀ s0 ev fr).1 hs) fun _ _=>rfl
  | .list xs,e,top,sc,nm,h=>Zqe (m:=XOk g sc nm (.list xs)) h fun es p h1 h2=>.of (fun _ _ _ _ _ _ _ ev fr=>Zwt (Ze6 (sXs xs es top sc nm h1) ev fr) h2) fun _ _=>rfl
  | .tuple xs,e,top,sc,nm,h=>Zs9 (m:=XOk g sc nm (.tuple xs)) h fun es k p h1 h2=>.of (fun _ _ _ _ _ _ _ ev fr=>Ztk (Ze6 (sXs xs es top sc nm h1) ev fr) h2) fun _ _=>rfl
  | .dict ks vs,e,top,sc,nm,h=>match ks,vs,h with
    | [],[],h=>Zoc (m:=XOk g sc nm (.dict [] [])) h fun _=>.of (fun _ _ _ _ _ _ _ _ _=>Ztn) fun _ _=>rfl
    | [k],[v],h=>Zob (m:=XOk g sc nm (.dict [k] [v])) h fun ks' vs' p h1 h2 =>
      Zdk (m:=fun ks'=>XOk g sc nm (.dict [k] [v]) (.Dict ks' vs' p)) h1 fun o r h1=>Zb6 (m:=fun r=>XOk g sc nm (.dict [k] [v]) (.Dict (o :: r) vs' p)) (and2 h1).2
        (Zeq (m:=fun o=>XOk g sc nm (.dict [k] [v]) (.Dict [o] vs' p)) (and2 h1).1 fun a ha =>
        Zdk (m:=fun vs'=>XOk g sc nm (.dict [k] [v]) (.Dict [some a] vs' p)) h2 fun b r h2=>Zb6 (m:=fun r=>XOk g sc nm (.dict [k] [v]) (.Dict [some a] (b :: r) p)) (and2 h2).2
        (.of (fun _ _ _ _ _ _ _ ev fr=>Ztm ev fr (sX k a top sc nm ha) (sX v b top sc nm (and2 (and2 h2).1).1)) fun _ _=>rfl))
    | [],_ :: _,h=>Zdc (m:=XOk g sc nm _) h fun _ _ _ h=>Bool.noConfusion h
    | [_],[],h=>Zdc (m:=XOk g sc nm _) h fun _ _ _ h=>Bool.noConfusion h
    | [_],_ :: _ :: _,h=>Zdc (m:=XOk g sc nm _) h fun _ _ _ h=>Bool.noConfusion h
    | _ :: _ :: _,_,h=>Zdc (m:=XOk g sc nm _) h fun _ _ _ h=>Bool.noConfusion h
  | .comp x k tup it c,e,top,sc,nm,h=>Zkg (m:=XOk g sc nm (.comp x k tup it c)) h fun elt tg iter ifs csc ts p htg o =>
    .of (fun A R V env e₀ l₀ s0 ev fr=>o.len ▸ Zwv C htg ev fr o.sc (Zf5 o.set) (sX it iter top sc nm o.it A R V env e₀ l₀ s0 ev fr).1 (sX x elt false _ _ o.x) (sC c ifs _ _ o.c)) fun _ _=>rfl
theorem sC:∀ (c:Option X) (es:List PySem.Expr) (sc:Scope) (nm:List Str),mtC g.c.P sc nm c es=true→Zev g sc nm c es
  | none,es,sc,nm,h=>Zb6 (m:=Zev g sc nm none) h .nil
  | some x,es,sc,nm,h=>Ze0 (m:=Zev g sc nm (some x)) h fun e h=>.one (sX x e false sc nm h)
theorem sXs:∀ (xs:List X) (es:List PySem.Expr) (top:Bool) (sc:Scope) (nm:List Str),mtXs g.c.P top sc nm xs es=true→Each (fun x e=>XOk g sc nm x e∧Zc1 e=true) xs es
  | [],es,top,sc,nm,h=>Zb6 (m:=Each (fun x e=>XOk g sc nm x e∧Zc1 e=true) []) h .nil
  | x :: r,es,top,sc,nm,h=>Zdk (m:=Each (fun x e=>XOk g sc nm x e∧Zc1 e=true) (x :: r)) h fun e q h=>.cons ⟨sX x e top sc nm (and2 (and2 h).1).1,(and2 (and2 h).1).2⟩ (sXs r q top sc nm (and2 h).2)
theorem sO:∀ (o:Option X) (e:Option PySem.Expr) (top:Bool) (sc:Scope) (nm:List Str),mtO g.c.P top sc nm o e=true →
    ∀ (A:Around) (R:RR) (V:VV) (env:Env) (e₀:Env) (l₀:List Env) (s0:Shared),Ev g A R e₀ l₀→Frm R env sc nm V→HO g A R V s0 env o e
  | none,none,top,sc,nm,h=>fun _ _ _ _ _ _ _ _ _=>trivial
  | none,some _,top,sc,nm,h=>Bool.noConfusion h
  | some x,none,top,sc,nm,h=>Bool.noConfusion h
  | some x,some e,top,sc,nm,h=>fun A R V env e₀ l₀ s0 ev fr=>(sX x e top sc nm h A R V env e₀ l₀ s0 ev fr).1
end
end
end Mine
end
section
open PySem PySem.W PyProof.Rows PySem.Spec PySem.SeqAt PySem.Calls
namespace Mine
section
variable {g:Gx} {sc:Scope} {nm:List Str} {mg mb:Str→Option Value}
abbrev XMd (g:Gx) (sc:Scope) (nm:List Str) (x:X) (e:PySem.Expr):Prop:=∀ md,XOk { g with md:=md } sc nm x e
theorem Zfa {md:Bool} {R:RR} {env:Env} {V:VV} {s0 s':Shared} {E:String→VV→Zaa→Prop} {e:Value} (fr:Frm R env sc nm V) (h:TE { g with md:=md } R s0 (fun cl H=>E cl V H) e s'):TX g env sc nm R s0 E e s':=by
  obtain ⟨a,cl,H',rfl,x,m,q⟩:=h
  exact ⟨a,cl,R,V,H',.none,rfl,.refl,fr,.inr (.inl rfl),x,m,q⟩
theorem TF.trans {R R':RR} {env:Env} {s0 s':Shared} {QN:VV→Zaa→Prop} {QR:AV→Zaa→Prop} {f:Flow} (x:RStep env R R') (h:TF g env sc nm R' s0 QN QR f s'):TF g env sc nm R s0 QN QR f s':=by
  cases f with
  | next=>obtain ⟨R2,V',H',r,k1,k2,k3,k4⟩:=h;exact ⟨R2,V',H',x.trans r,k1,k2,k3,k4⟩
  | ret v=>obtain ⟨R2,V',H',r,k1,k2,k3,k4⟩:=h;exact ⟨R2,V',H',x.trans r,k1,k2,k3,k4⟩
  | brk=>exact h
  | cont=>exact h
theorem TX.trans {R R':RR} {env:Env} {s0 s':Shared} {E:String→VV→Zaa→Prop} {e:Value} (x:RStep env R R') (h:TX g env sc nm R' s0 E e s'):TX g env sc nm R s0 E e s':=by
  obtain ⟨a,cl,R2,V',H',fl,h1,r,k1,k2,k3,k4,k5⟩:=h
  exact ⟨a,cl,R2,V',H',fl,h1,x.trans r,k1,k2,k3,k4,k5⟩
theorem Zo1 {v o ix:PySem.Expr} {p:Pos} {l:Nat} {env:Env}:swapsWith v (some (.Subscript o ix p)) l env=pure false:=by
  cases v <;> rfl
theorem Zg9 {v:PySem.Expr} {t:Option PySem.Expr} {l:Nat} {env:Env} (h:Ze1 v=true):swapsWith v t l env=pure false:=by
  cases v <;> first | rfl | exact Bool.noConfusion h
theorem Z0i {e:X} {v:PySem.Expr} {pos:Pos} (hx:XMd g sc nm e v):SOk g sc nm (fun g=>wpS g (.ret e)) (exec (.Return (some v) pos)):=fun md A env l₀ R V s0 s H QN QR E ev fr S m q=>by
  dsimp only [Zay,Zbt,Zaj,Zal,Za4,Zbd,Zbu,Zdp,Zct] at q
  refine wpAny_Return_some (wpAny_mono ((hx md A R V env env l₀ s0 ev fr).1 H s _ _ S m q) (fun u s' z=>?_) fun _ _ z=>Zfa fr z)
  obtain ⟨av,H',hv,S',m',q'⟩:=z
  exact ⟨R,av,H',.refl,hv,S',m',q'⟩
theorem Zx0 {pos:Pos}:SOk g sc nm (fun g=>wpS g .pass) (exec (.Pass pos)):=fun md A env l₀ R V s0 s H QN QR E ev fr S m q=>by
  dsimp only [Zay,Zbt,Zaj,Zal,Za4,Zbd,Zbu,Zdp,Zct] at q
  exact wpAny_Pass ⟨R,V,H,.refl,fr,S,m,q⟩
theorem Zx2 {e:X} {v:PySem.Expr} {pos:Pos} (hn:Ze1 v=true) (hx:XMd g sc nm e v):SOk g sc nm (fun g=>wpS g (.expr e)) (exec (.Expr v pos)):=fun md A env l₀ R V s0 s H QN QR E ev fr S m q=>by
  dsimp only [Zay,Zbt,Zaj,Zal,Za4,Zbd,Zbu,Zdp,Zct] at q
  refine wpAny_Expr_any (wpAny_mono ((hx md A R V env env l₀ s0 ev fr).1 H s _ _ S m q) (fun u s' z=>?_) fun _ _ z=>Zfa fr z) (by unfold interactive;rw [fr.kind];rfl) (Zg9 hn)
  obtain ⟨av,H',hv,S',m',q'⟩:=z
  exact ⟨R,V,H',.refl,fr,S',m',q'⟩
theorem Zme {i:Nat} {is:List Nat} {es:List PySem.Expr} (h:Zh4 sc nm (i :: is) es=true):∃ id p r,es = .Name id p :: r∧nm[i]? = some id∧Zd4 sc id=true∧Zh4 sc nm is r=true :=
  Zdk (m:=fun es=>∃ id p r,es = .Name id p :: r∧nm[i]? = some id∧Zd4 sc id=true∧Zh4 sc nm is r=true) h fun e r h =>
    Zg8 (m:=fun e=>∃ id p r',e :: r = .Name id p :: r'∧nm[i]? = some id∧Zd4 sc id=true∧Zh4 sc nm is r'=true) (and2 h).1 fun id p h1 h2=>⟨id,p,r,rfl,h1,h2,(and2 h).2⟩
theorem Zr8 {env:Env} {is:List Nat} {es:List PySem.Expr} (h:Zh4 sc nm is es=true):(assignEach es env).length=is.length∧(assignEach es env).findIdx? (·.1)=none:=by
  induction is generalizing es with
  | nil =>
    have:es=[]:=by cases es with | nil=>rfl | cons=>cases h
    subst this;exact ⟨rfl,rfl⟩
  | cons i is ih =>
    obtain ⟨id,p,r,rfl,_,_,h4⟩:=Zme h
    obtain ⟨i1,i2⟩:=ih h4
    exact ⟨congrArg Nat.succ i1,by show List.findIdx? _ ((false,_) :: assignEach r env)=none;rw [List.findIdx?_cons,i2];rfl⟩
set_option tactic.hygienic true in
theorem Zsg {c:Cx} {H:Zaa} {A:Around} {E:Value→Shared→Prop} {env:Env} {Q:Unit→Shared→Prop} (nd:nm.Nodup) {is:List Nat} {es:List PySem.Expr} {xs:List AV} {vs:List Value} {R:RR} {V:VV} {s:Shared} (h:Zh4 sc nm is es=true) (hv:VRs xs vs) (hl:xs.length=is.length)
    (fr:Frm R env sc nm V) (S:St c R H s.heap) (q:∀ s' R',RStep env R R'→Frm R' env sc nm (Zid V is xs)→St c R' H s'.heap→Sm s s'→Q () s'):wpAny (model c.prog c.w) A (assignInOrder ((assignEach es env).map (·.2)) vs) Q E s:=by
  induction is generalizing es xs vs R V s with
  | nil =>
    have:es=[]:=by cases es with | nil=>rfl | cons=>cases h
    subst this
    cases hv with
    | nil=>exact wpAny_pure (q s R .refl fr S ⟨_,_,rfl⟩)
    | cons=>cases hl
  | cons i is ih =>
    obtain ⟨id,p,r,rfl,h2,h3,h4⟩:=Zme h
    cases hv with
    | nil=>cases hl
    | cons hv1 hvr =>
    rename_i y v ys' vs'
    show wpAny _ A (do holding vs' (assign (.Name id p) env v);assignInOrder ((assignEach r env).map (·.2)) vs') Q E s
    refine wpAny_bind (wpAny_holding (wpAny_assign_Name (Zhf fr nd h2 h3 hv1 S fun s₁ R₁ r₁ f₁ S₁ m₁=>?_)))
    exact ih h4 hvr (Nat.succ.inj hl) f₁ S₁ fun s' R' r' f' S' m'=>q s' R' (r₁.trans r') f' S' (m₁.trans m')
theorem Zox {is:List Nat} {e:PySem.Expr} (h:Zoy sc nm is e=true):∃ es k p,e = .Tuple es k p∧Zh4 sc nm is es=true :=
  Zhp (m:=fun e=>∃ es k p,e = .Tuple es k p∧Zh4 sc nm is es=true) h fun es k p h=>⟨es,k,p,rfl,h⟩
set_option tactic.hygienic true in
theorem Zz7 {k:Nat} {y:AV} {H:Zaa} {P:List AV→Prop} (hw:Zb4 k y H P):∃ p xs,y = .ref p∧(H p=some (.tuple xs)∨H p=some (.list xs))∧xs.length=k∧P xs:=by
  cases y with
  | ref p =>
    simp only [Zb4] at hw
    split at hw
    · rename_i xs e;exact ⟨p,xs,rfl,.inl e,hw⟩
    · rename_i xs e;exact ⟨p,xs,rfl,.inr e,hw⟩
    · exact hw.elim
  | _=>exact hw.elim
theorem Zug {c:Cx} {H:Zaa} {A:Around} {E:Value→Shared→Prop} {env:Env} {Q:Unit→Shared→Prop} {mg mb:Str→Option Value} {is:List Nat} {e:PySem.Expr} {x:AV} {u:Value} {R:RR} {V:VV} {s:Shared} {P:List AV→Prop} (C:c.Ok mg mb) (hh:A.handled=none) (nd:nm.Nodup) (h:Zoy sc nm is e=true) (hv:VR x u)
    (hw:Zb4 is.length x H P) (fr:Frm R env sc nm V) (S:St c R H s.heap) (q:∀ s' R' xs,P xs→RStep env R R'→Frm R' env sc nm (Zid V is xs)→St c R' H s'.heap→Sm s s'→Q () s'):wpAny (model c.prog c.w) A (assign e env u) Q E s:=by
  obtain ⟨es,k,pp,rfl,h⟩:=Zox h
  obtain ⟨p,xs,rfl,hx,hl,hP⟩:=Zz7 hw
  cases hv
  obtain ⟨l1,l2⟩:=Zr8 (env:=env) h
  obtain ⟨mL,hL,_⟩:=fr.ns
  rw [assign_Tuple]
  unfold unpack
  rw [l1,l2,← hl]
  refine wpAny_bind (wpAny_standAt (wpAny_bind (wpAny_holding (Zjs C hh hL S hx fun s₁ vs hvs S₁ m₁=>?_))))
  exact Zsg nd h hvs hl fr S₁ fun s' R' r' f' S' m'=>q s' R' xs hP r' f' S' (m₁.trans m')
theorem Z0a {c:Cx} {H:Zaa} {A:Around} {E:Value→Shared→Prop} {env:Env} {Q:Unit→Shared→Prop} {mg mb:Str→Option Value} {t:Tg} {e:PySem.Expr} {x:AV} {u:Value} {R:RR} {V:VV} {s:Shared} {P:VV→Prop} (C:c.Ok mg mb) (hh:A.handled=none) (nd:nm.Nodup) (h:tgOk sc nm t e=true) (hv:VR x u)
    (hw:wtg t x V H P) (fr:Frm R env sc nm V) (S:St c R H s.heap) (q:∀ s' R' V',P V'→RStep env R R'→Frm R' env sc nm V'→St c R' H s'.heap→Sm s s'→Q () s'):wpAny (model c.prog c.w) A (assign e env u) Q E s:=by
  cases t with
  | var i =>
    exact Zg8 (m:=fun e=>wpAny (model c.prog c.w) A (assign e env u) Q E s) h fun _ _ h1 h2=>wpAny_assign_Name (Zhf fr nd h1 h2 hv S fun s' R' r' f' S' m'=>q s' R' _ hw.2 r' f' S' m')
  | tup is=>exact Zug C hh nd h hv hw fr S fun s' R' xs hP r' f' S' m'=>q s' R' _ hP r' f' S' m'
theorem Zo0 {v:PySem.Expr} {es:List PySem.Expr} {k p} {l:Nat} {env:Env}:swapsWithSole [.Tuple es k p] v l env=pure false:=by
  show swapsWith v (some (.Tuple es k p)) l env=pure false
  cases v <;> rfl
theorem Znn {v:PySem.Expr} {es:List PySem.Expr} {k p} {env:Env} (h:Zkd v=true):swappedStores [.Tuple es k p] v env=pure none:=by
  cases v <;> first | rfl | exact Bool.noConfusion h
theorem Znq {is:List Nat} {e:X} {tg v:PySem.Expr} {pos:Pos} (C:g.c.Ok mg mb) (nd:nm.Nodup) (hn:Zkd v=true) (ht:Zoy sc nm is tg=true) (hx:XMd g sc nm e v):SOk g sc nm (fun g=>wpS g (.assign (.tup is) e)) (exec (.Assign [tg] v pos)) :=
  fun md A env l₀ R V s0 s H QN QR E ev fr S m q=>by
  dsimp only [Zay,Zbt,Zaj,Zal,Za4,Zbd,Zbu,Zdp,Zct,tv,tsub,tattr,ttup] at q
  obtain ⟨es,k,pp,rfl,_⟩:=Zox ht
  refine Assign_Tuple (wpAny_mono ((hx md A R V env env l₀ s0 ev fr).1 H s _ _ S m q) (fun u s₁ z=>?_) fun _ _ z=>Zfa fr z) Zo0 (Znn hn)
  obtain ⟨av,H',hv,S',m',hmd,q'⟩:=z
  exact Zug C (ev.aok.hand hmd) nd ht hv q' fr S' fun s₂ R' xs hP r' f' S2 m₂=>⟨R',_,H',r',f',S2,m'.trans m₂,hP⟩
theorem Znp {i:Nat} {e:X} {tg v:PySem.Expr} {pos:Pos} (nd:nm.Nodup) (hn:Ze1 v=true) (ht:Znk sc nm i tg=true) (hx:XMd g sc nm e v):SOk g sc nm (fun g=>wpS g (.assign (.var i) e)) (exec (.Assign [tg] v pos)) :=
  fun md A env l₀ R V s0 s H QN QR E ev fr S m q=>by
  dsimp only [Zay,Zbt,Zaj,Zal,Za4,Zbd,Zbu,Zdp,Zct,tv,tsub,tattr,ttup] at q
  refine Zg8 (m:=fun tg=>wpAny (model g.c.prog g.c.w) A (exec (.Assign [tg] v pos) env) (TF g env sc nm R s0 QN QR) (TX g env sc nm R s0 E) s) ht fun id p h1 h2=>?_
  refine wpAny_Assign_Name (wpAny_mono ((hx md A R V env env l₀ s0 ev fr).1 H s _ _ S m q) (fun u s₁ z=>?_) fun _ _ z=>Zfa fr z) (Zg9 hn)
  obtain ⟨av,H',hv,S',m',_,q'⟩:=z
  exact Zhf fr nd h1 h2 hv S' fun s₂ R' r f' S2 m₂=>⟨R',_,H',r,f',S2,m'.trans m₂,q'⟩
theorem Frm.drop {R R':RR} {env:Env} {V V':VV} {Ca:Addr} (f:Frm R' env sc nm V') (fr:Frm R env sc nm V) (hCa:R Ca=none):Frm (Zcm R' Ca) env sc nm V':=by
  obtain ⟨k1,k2,k3,k4,k5,k6,k7,kc,kl,k8,⟨m,n1,n2⟩,k9⟩:=f
  obtain ⟨m',n1',_⟩:=fr.ns
  refine ⟨k1,k2,k3,k4,k5,k6,k7,kc,kl,k8,⟨m,by rw [Za2 (fun z=>by rw [z,hCa] at n1';cases n1')];exact n1,n2⟩,fun i n hn hk=>?_⟩
  obtain ⟨a,x,v,c1,c2,c3⟩:=k9 i n hn hk
  obtain ⟨a',x',v',c1',c2',c3'⟩:=fr.cell i n hn hk
  rw [c1] at c1';cases c1'
  exact ⟨a,x,v,c1,by rw [Za2 (fun z=>by rw [z,hCa] at c2';cases c2')];exact c2,c3⟩
theorem RStep.drop {env:Env} {R R':RR} {a:Addr} (x:RStep env R R'):RStep env (Zcm R a) (Zcm R' a):=fun b=>by
  by_cases z:b=a
  · subst z;left;rw [Zb8,Zb8]
  · rw [Za2 z,Za2 z];exact x b
theorem Zlc {i:Nat} {x it:X} {c:Option X} {tg ctg elt iter:PySem.Expr} {ifs:List PySem.Expr} {tup:Bool} {ts:List Str} {csc:Scope} {pos spos:Pos} (C:g.c.Ok mg mb) (htg:TgN ctg tup ts) (nd:nm.Nodup) (ht:Znk sc nm i tg=true) (hm:Zcq sc csc nm ts=true)
    (hf:Zio iter=true) (hit:XMd g sc nm it iter) (hx:∀ md,XOk { g with md:=md } csc (Zdt nm ts ++ ts) x elt) (hc:∀ md,Zev { g with md:=md } csc (Zdt nm ts ++ ts) c ifs)
    (hcm:XMd g sc nm (.comp x ts.length tup it c) (.ListComp elt [⟨ctg,iter,ifs,0⟩] csc pos)):SOk g sc nm (fun g=>wpS g (.assign (.var i) (.comp x ts.length tup it c))) (exec (.Assign [tg] (.ListComp elt [⟨ctg,iter,ifs,0⟩] csc pos) spos)) :=
  fun md A env l₀ R V s0 s H QN QR E ev fr S m q=>by
  dsimp only [Zay,Zbt,Zaj,Zal,Za4,Zbd,Zbu,Zdp,Zct,tv,tsub,tattr,ttup] at q
  refine Zg8 (m:=fun tg=>wpAny (model g.c.prog g.c.w) A (exec (.Assign [tg] (.ListComp elt [⟨ctg,iter,ifs,0⟩] csc pos) spos) env) (TF g env sc nm R s0 QN QR) (TX g env sc nm R s0 E) s) ht fun id p h1 h2=>?_
  obtain ⟨b,hsw⟩:∃ b,swapsWith (.ListComp elt [⟨ctg,iter,ifs,0⟩] csc pos) (some (.Name id p)) spos.line env=pure b:=⟨_,rfl⟩
  cases b with
  | false =>
    refine wpAny_Assign_Name (wpAny_mono ((hcm md A R V env env l₀ s0 ev fr).1 H s _ _ S m q) (fun u s₁ z=>?_) fun _ _ z=>Zfa fr z) hsw
    obtain ⟨av,H',hv,S',m',_,q'⟩:=z
    exact Zhf fr nd h1 h2 hv S' fun s₂ R' r f' S2 m₂=>⟨R',_,H',r,f',S2,m'.trans m₂,q'⟩
  | true =>
    dsimp only [Zah,Zae,Zau,Zbq,Zbb,x_ao,Zap,Za1,Zar,Zav,Za0,Zam,Zak,x_bm,Zbo,Zaw,Zbc,Zcl,Zao,Za7,Za3,Zbg,Za8] at q
    obtain ⟨hmd,q⟩:=q
    rw [exec_Assign_Name_used _ _ _ _ hsw]
    refine wpAny_bind (wpAny_standAt (wpAny_bind ?_))
    show wpAny _ A (do let _ ← comprehension (.ListComp elt [⟨ctg,iter,ifs,0⟩] csc pos) csc env _ (newList []) false (eval iter env) (some (assign (.Name id p) env))) _ _ s
    refine wpAny_bind (wpAny_mono (wpAny_comprehension_free (use:=some (assign (.Name id p) env)) (Q:=fun _ s'=>TF g env sc nm R s0 QN QR .next s') rfl (Zf5 hf) (Zky fr hm) (Zh0 hm).1 (Zh0 hm).2.2 ?_)
      (fun _ s' hq=>wpAny_pure (wpAny_pure hq)) fun _ _ e=>e)
    refine wpAny_mono ((hit md A R V env env l₀ s0 ev fr).1 H s _ (fun cl H=>E cl V H) S m q) (fun u s₁ z=>?_) fun _ _ z=>Zfa fr z
    obtain ⟨av,H₁,hv,S₁,m₁,xs,hxs,hz,I,hI,hstep⟩:=z
    refine Ziz (g:={ g with md:=md }) (I:=I) (RR':=fun acc Ca=>compPost (model g.c.prog g.c.w) A (TX g env sc nm R s0 E) (some (assign (.Name id p) env)) (fun _ s'=>TF g env sc nm R s0 QN QR .next s') acc Ca) C htg (ev.aok.hand hmd) ev fr hm (hx md) (hc md) hv S₁ m₁ hxs hz hI (fun k acc H' hi=>⟨(hstep k acc H' hi).1,(hstep k acc H' hi).2.2⟩) ?_
    intro D Ca acc H' s' m' hCa hi hd S' ms'
    have f₁:Frm (rup R Ca (.ns m')) env sc nm V:=fr.congr fun b hb=>Zag fun z=>by
      rw [z] at hb;rcases hb with ⟨_,hb⟩ | ⟨_,hb⟩ <;> (rw [hCa] at hb;cases hb)
    show wpAny _ A (assign (.Name id p) env (.ref D)) _ _ _
    refine wpAny_assign_Name (Zhf f₁ nd h1 h2 (.ref D) S' fun s₂ R' r f' S2 m₂=>?_)
    obtain ⟨m'',hm''⟩:=r.ns Zaq
    refine ⟨m'',(S2.res Ca _ hm'').2,fun h' hs'=>?_⟩
    have hRR:Zcm (rup R Ca (.ns m')) Ca=R:=by
      funext b
      by_cases z:b=Ca
      · subst z;rw [Zb8,hCa]
      · rw [Za2 z,Zag z]
    have rd:=r.drop (a:=Ca)
    rw [hRR] at rd
    exact ⟨Zcm R' Ca,_,_,rd,f'.drop fr hCa,S2.dropAny hm'' hs'.extBut (by rw [hs'.1];exact S2.size),(ms'.trans m₂).heap _,((hstep _ acc H' hi).2.1 rfl D hd).2⟩
theorem s_if {c:X} {a b:List S} {t:PySem.Expr} {x y:List Stmt} {pos:Pos} (hc:XMd g sc nm c t) (ha:SOk g sc nm (fun g=>wpSs g a) (execs x)) (hb:SOk g sc nm (fun g=>wpSs g b) (execs y)) :
    SOk g sc nm (fun g=>wpS g (.ite c a b)) (exec (.If t x y pos)):=fun md A env l₀ R V s0 s H QN QR E ev fr S m q=>by
  dsimp only [Zay,Zbt,Zaj,Zal,Za4,Zbd,Zbu,Zdp,Zct] at q
  refine wpAny_If (wpAny_mono ((hc md A R V env env l₀ s0 ev fr).2 H s (fun _ t H=>if t then wpSs { g with md:=md } a QN QR E V H else wpSs { g with md:=md } b QN QR E V H) (fun cl H=>E cl V H) S m q) (fun u s' z=>?_) fun _ _ z=>Zfa fr z)
  obtain ⟨v,H',S',m',q',_⟩:=z
  cases u with
  | true=>exact ha md A env l₀ R V s0 s' H' QN QR E ev fr S' m' (by simpa using q')
  | false=>exact hb md A env l₀ R V s0 s' H' QN QR E ev fr S' m' (by simpa using q')
theorem Zxu:SOk g sc nm (fun g=>wpSs g []) (execs []):=fun md A env l₀ R V s0 s H QN QR E ev fr S m q=>by
  dsimp only [Zb0,Zax] at q
  exact wpAny_execs_nil ⟨R,V,H,.refl,fr,S,m,q⟩
theorem Zvl {st:S} {r:List S} {t:Stmt} {u:List Stmt} (h:SOk g sc nm (fun g=>wpS g st) (exec t)) (hr:SOk g sc nm (fun g=>wpSs g r) (execs u)):SOk g sc nm (fun g=>wpSs g (st :: r)) (execs (t :: u)) :=
  fun md A env l₀ R V s0 s H QN QR E ev fr S m q=>by
  dsimp only [Zb0,Zax] at q
  refine wpAny_execs_cons (wpAny_mono (h md A env l₀ R V s0 s H _ QR E ev fr S m q) (fun f s' z=>?_) fun _ _ z=>z)
  cases f with
  | next =>
    obtain ⟨R',V',H',r',f',S',m',q'⟩:=z
    exact wpAny_mono (hr md A env l₀ R' V' s0 s' H' QN QR E (ev.step r') f' S' m' q') (fun _ _ z=>z.trans r') fun _ _ z=>z.trans r'
  | ret v=>exact z
  | brk=>exact z
  | cont=>exact z
set_option tactic.hygienic true in
theorem Zrm {M:Model} {A:Around} {env:Env} {R:RR} {H:Zaa} {a:Addr} {cl:String} {s:Shared} {E:Value→Shared→Prop} (hf:env.frame=some env.locals) (X:ExcSt g.c R H a cl (rawInt env.locals) s.heap)
    (q:∀ h',ExcSt g.c R H a cl (rawInt env.locals) h'→E (.ref a) { s with heap:=h' }):cameBackBy M A env E (.ref a) s:=by
  unfold cameBackBy
  have X':=X
  obtain ⟨H₁,⟨st,re,he,be,ob,kn⟩,_⟩:=X'
  cases ob with
  | traced h1 h2 h3 h4 h5 h6 h7 h8 h9 h10 h11 h12 h13 =>
    rename_i oe vs T oT ts a0
    refine wpAny_bind (wpAny_field h1 h3 h5 ?_)
    rw [if_neg (show ¬ ((Value.ref T == Value.none)=true) from by simp)]
    rw [hf]
    exact Zf6 X (by simp [rawInt]) fun h' X2=>q h' X2
theorem Zf3 {md:Bool} {A:Around} {env:Env} {l₀:List Env} {R:RR} {s0 s:Shared} {E:String→VV→Zaa→Prop} {e:Value} {M:Model} (ev:Ev { g with md:=md } A R env l₀) (h:TX g env sc nm R s0 E e s) :
    notedBy M A env (fun e s'=>cameBackBy M A env (TX g env sc nm R s0 E) e s') e s:=by
  obtain ⟨a,cl,R',V',H',fl,rfl,r,fr,hfl,X,m,q⟩:=h
  refine Znc ev.aok.frames (r.stk ev.stk) X hfl fun h₁ X1=>?_
  refine Zrm (g:=g) (s:={ s with heap:=h₁ }) (ev.stk env (.head _)).frame X1 fun h₂ X2=>?_
  exact ⟨a,cl,R',V',H',_,rfl,r,fr,.inr (.inr rfl),X2,m.trans ⟨_,_,rfl⟩,q⟩
theorem Zvp {c:X} {b:List S} {t:PySem.Expr} {x:List Stmt} {pos:Pos} (hc:XMd g sc nm c t) (hb:SOk g sc nm (fun g=>wpSs g b) (execs x)):SOk g sc nm (fun g=>wpS g (.while c b)) (exec (.While t x [] pos)) :=
  fun md A env l₀ R V s0 s H QN QR E ev fr S m q=>by
  dsimp only [Zbu,Zrw] at q
  obtain ⟨_,I,⟨n,hI⟩,hstep⟩:=q
  refine wpAny_While (codeAny_whileLoop (fun n s=>∃ R' V' H',RStep env R R'∧Frm R' env sc nm V'∧St g.c R' H' s.heap∧Sm s0 s∧I n V' H') ?_ n ⟨R,V,H,.refl,fr,S,m,hI⟩)
  rintro n s₁ ⟨R',V',H',r,f',S',m',hi⟩
  have ev':=ev.step r
  refine wpAny_mono ((hc md A R' V' env env l₀ s0 ev' f').2 H' s₁ (fun _ b₁ H''=>if b₁ then wpSs { g with md:=md } b (fun V2 H₂=>∃ m,m < n∧I m V2 H₂) QR E V' H'' else QN V' H'') (fun cl H=>E cl V' H) S' m' (hstep n V' H' hi)) (fun u s₂ z=>?_) fun _ _ z=>Zf3 ev (TX.trans r (Zfa f' z))
  obtain ⟨v,H₂,S2,m₂,q₂,_⟩:=z
  cases u with
  | true =>
    dsimp only [if_true] at q₂ ⊢
    refine wpAny_mono (hb md A env l₀ R' V' s0 s₂ H₂ _ QR E ev' f' S2 m₂ q₂) (fun fl s₃ z=>?_) fun _ _ z=>Zf3 ev (TX.trans r z)
    cases fl with
    | next =>
      obtain ⟨R3,V3,H₃,r₃,f₃,S3,m3,k,hk,q₃⟩:=z
      exact ⟨k,hk,R3,V3,H₃,r.trans r₃,f₃,S3,m3,q₃⟩
    | ret v=>exact TF.trans r z
    | brk=>exact z.elim
    | cont=>exact z.elim
  | false =>
    dsimp only [Bool.false_eq_true,if_false] at q₂ ⊢
    exact wpAny_execs_nil ⟨R',V',H₂,r,f',S2,m₂,q₂⟩
theorem tg_k {t:Tg} {tg:PySem.Expr} (ht:tgOk sc nm t tg=true):TgK tg:=by
  cases t with
  | var i=>exact Zg8 (m:=TgK) ht fun id p _ _=>.inl ⟨id,p,rfl⟩
  | tup is=>obtain ⟨es,k,p,rfl,_⟩:=Zox ht;exact .inr ⟨es,k,p,rfl⟩
inductive ForI (c:Cx) (env:Env) (sc:Scope) (nm:List Str) (R:RR) (s0:Shared) (a:Addr) (av:AV) (l:Nat) (I:Nat→VV→Zaa→Prop) (n:Nat) (s:Shared):Prop
  | mk (k:Nat) (R':RR) (V':VV) (H':Zaa) (o':Obj) (hn:n=l - k) (hk:k≤l) (hR:R' a=some (.obj o')) (it:ItObj H' av k o') (r:RStep env R (Zcm R' a)) (f:Frm R' env sc nm V') (S:St c R' H' s.heap) (m:Sm s0 s) (q:I k V' H'):ForI c env sc nm R s0 a av l I n s
theorem Zmi {R:RR} {a:Addr} {r:Res}:Zcm (rup R a r) a=Zcm R a:=by
  funext b
  by_cases z:b=a
  · subst z;rw [Zb8,Zb8]
  · rw [Za2 z,Za2 z,Zag z]
theorem Zuu {R:RR} {a b:Addr} {o:Obj} (h:R a=some (.obj o)) (hb:(∃ m,R b=some (.ns m))∨∃ x,R b=some (.cell x)):b≠a:=fun z=>by
  rw [z,h] at hb;rcases hb with ⟨_,hb⟩ | ⟨_,hb⟩ <;> cases hb
theorem Frm.dropO {R:RR} {env:Env} {sc:Scope} {nm:List Str} {V:VV} {a:Addr} {o:Obj} (h:R a=some (.obj o)) (f:Frm R env sc nm V):Frm (Zcm R a) env sc nm V:=f.congr fun b hb=>Za2 (Zuu h hb)
theorem Ev.dropO {g:Gx} {A:Around} {R R2:RR} {env:Env} {l₀:List Env} {a:Addr} (ev:Ev g A R env l₀) (r:RStep env R (Zcm R2 a)):Ev g A R2 env l₀:=⟨ev.aok,fun e he=>by
  have F:=ev.stk e he
  obtain ⟨mm,hm⟩:=F.ns
  obtain ⟨m',hm'⟩:=r.ns hm
  exact ⟨F.kind,F.frame,F.gen,F.co,F.blt,F.glob,m',Zeo _ _ hm'⟩⟩
theorem TX.dropO {g:Gx} {env:Env} {sc:Scope} {nm:List Str} {R R2:RR} {s0 s':Shared} {E:String→VV→Zaa→Prop} {e:Value} {a:Addr} {o₂:Obj} (h:R2 a=some (.obj o₂)) (r:RStep env R (Zcm R2 a)) (t:TX g env sc nm R2 s0 E e s'):TX g env sc nm R s0 E e s':=by
  obtain ⟨b,cl,R3,V3,H₃,fl,e1,r₃,f₃,hfl,X,m,q⟩:=t
  exact ⟨b,cl,Zcm R3 a,V3,H₃,fl,e1,r.trans r₃.drop,f₃.dropO (r₃.obj h),hfl,X.weaken Zeo,m,q⟩
set_option tactic.hygienic true in
theorem Z0m {t:Tg} {it:X} {b:List S} {tg iter:PySem.Expr} {x:List Stmt} {pos:Pos} (C:g.c.Ok mg mb) (nd:nm.Nodup) (hn:Zio iter=true) (ht:tgOk sc nm t tg=true) (hi:XMd g sc nm it iter) (hb:SOk g sc nm (fun g=>wpSs g b) (execs x)) :
    SOk g sc nm (fun g=>wpS g (.for t it b)) (exec (.For tg iter x [] pos)):=fun md A env l₀ R V s0 s H QN QR E ev fr S m q=>by
  dsimp only [Zay,Zbt,Zaj,Zal,Za4,Zbd,Zbu,Zdp,Zct] at q
  obtain ⟨hmd,q⟩:=q
  subst hmd
  · refine wpAny_For (wpAny_mono ((hi true A R V env env l₀ s0 ev fr).1 H s _ (fun cl H=>E cl V H) S m q) (fun u s₁ z=>?_) fun _ _ z=>Zfa fr z) (Zf5 hn)
    obtain ⟨av,H₁,hv,S₁,m₁,xs,hxs,I,hI,hstep⟩:=z
    refine Zqo C hv S₁ hxs fun s₂ a o ha hHa ho S2 m₂=>?_
    have hsv:∀ y,av = .str y→PyData.strOk y=true:=by rintro y rfl;cases hv;assumption
    have hna:∀ b,(∃ m,R b=some (.ns m))∨(∃ x,R b=some (.cell x))→b≠a:=by rintro b (⟨m,h⟩ | ⟨m,h⟩) rfl <;> (rw [ha] at h;cases h)
    have ft:Frm (rup R a (.obj o)) env sc nm V:=fr.congr fun b hb=>Zag (hna b hb)
    refine codeAny_forLoop_any (ForI g.c env sc nm R s0 a av xs.length I) ?_ xs.length
      ⟨0,rup R a (.obj o),V,H₁,o,by lia,Nat.zero_le _,Zaq,ho,fun b=>.inl ?_,ft,S2,m₁.trans m₂,hI⟩
    · rintro n s₃ ⟨k,R',V',H',o',hn',hk,hR',hit,hrs,f',S',m',hi'⟩
      obtain ⟨hsame,hend,hturn⟩:=hstep k V' H' hi'
      have hxs':=Zit hsame hxs
      rcases Nat.lt_or_ge k xs.length with hlt | hge
      · obtain ⟨xv,hx⟩:∃ xv,xs[k]? = some xv:=⟨xs[k],by simp [hlt]⟩
        refine Zlz hxs' hx hit hR' S' hsv fun s₄ u4 o₂ hvx ho2 S4 m4=>?_
        have r₄:RStep env R (Zcm (rup R' a (.obj o₂)) a):=by rw [Zmi];exact hrs
        have f₄:Frm (rup R' a (.obj o₂)) env sc nm V':=f'.congr fun b hb=>Zag (Zuu hR' hb)
        have hst:=hturn xv hx
        refine Zmn (tg_k ht) ho2 ((S4.res _ _ Zaq).2) ?_
        refine Z0a C (ev.aok.hand rfl) nd ht hvx hst f₄ S4 fun s5 R5 V5 hst r₅ f₅ S₅ m5=>?_
        have h₅:=r₅.obj (Zaq (R:=R'))
        have rr:=r₄.trans r₅.drop
        refine wpAny_mono (hb true A env l₀ R5 _ s0 s5 H' _ QR E (Ev.dropO (g:={ g with md:=true }) ev rr) f₅ S₅ ((m'.trans m4).trans m5) hst) (fun fl s6 z=>?_) fun _ _ z=>Zf3 ev (TX.dropO h₅ rr z)
        cases fl with
        | next =>
          obtain ⟨R6,V6,H₆,r₆,f₆,S6,m6,q6⟩:=z
          refine ⟨xs.length - (k + 1),by lia,k + 1,R6,V6,H₆,o₂,rfl,by lia,r₆.obj h₅,?_,rr.trans r₆.drop,f₆,S6,m6,q6⟩
          exact ho2.same2 hsame (hstep (k + 1) V6 H₆ q6).1
        | ret v =>
          obtain ⟨R6,av6,H₆,r₆,hv6,S6,m6,q6⟩:=z
          exact ⟨Zcm R6 a,av6,H₆,rr.trans r₆.drop,hv6,S6.weaken Zeo,m6,q6⟩
        | brk=>exact z.elim
        | cont=>exact z.elim
      · obtain ⟨mm,hmm,_⟩:=f'.ns
        refine Zqp (ev.aok.hand rfl) hxs' (by simp;lia) hit hR' hmm S' fun s₄ S4 m4=>?_
        exact wpAny_execs_nil ⟨Zcm R' a,V',H',hrs,f'.dropO hR',S4,m'.trans m4,hend (by lia)⟩
    · rw [Zmi]
      by_cases z:b=a
      · subst z;rw [Zb8,ha]
      · rw [Za2 z]
end
end Mine
end
section
end
section
open PySem PySem.W PyProof.Rows PySem.Spec PySem.SeqAt PySem.Calls
namespace Mine
section
variable {g:Gx} {sc:Scope} {nm:List Str} {mg mb:Str→Option Value}
set_option tactic.hygienic true in
theorem DRs.store {es:List (Str×AV)} {kvs:List (Str×Value)} (h:DRs es kvs) {k:Str} {x:AV} {u:Value} (hk:PyData.strOk k=true) (hv:VR x u):DRs (putS es k x) (stored kvs k u):=by
  have ha:(Zbx es k).isSome=kvs.any (fun kv=>kv.1=k):=by
    induction h with
    | nil=>rfl
    | cons h1 h2 _ ih =>
      unfold Zbx at ih ⊢
      rw [List.find?_cons,List.any_cons]
      split
      · rename_i z;simp at z;simp [z]
      · rename_i z;simp at z;rw [ih];simp [z]
  unfold putS stored
  rw [ha]
  split
  · clear ha
    rename_i z;clear z
    induction h with
    | nil=>exact .nil
    | cons h1 h2 _ ih =>
      rename_i k' a v as vs _
      simp only [List.map_cons]
      by_cases z:k'=k
      · simp only [z,if_true];exact .cons hk hv ih
      · simp only [z,if_false];exact .cons h1 h2 ih
  · clear ha
    rename_i z;clear z
    induction h with
    | nil=>exact .cons hk hv .nil
    | cons h1 h2 _ ih=>exact .cons h1 h2 ih
theorem Zpa {A:Around} {R:RR} {H:Zaa} {s s0:Shared} {E:Value→Shared→Prop} {p:Addr} {k:Str} {t:Tok} {ep:Nat} {es:List (Str×AV)} {x:AV} {u:Value} {Q:Unit→Shared→Prop} (hv:VR x u) (hk:PyData.strOk k=true) (e:H p=some (.dict ep es)) (hz:es.length≤sizeLine)
    (S:St g.c R H s.heap) (m:Sm s0 s) (q:∀ s' ep',St g.c R (up H p (.dict ep' (putS es k x))) s'.heap→Sm s0 s'→Q () s'):wpAny (model g.c.prog g.c.w) A (setItem (.ref p) (.str k t) u) Q E s:=by
  obtain ⟨kvs,hd,hr⟩:=Zcp S e
  refine wpAny_setItem_pairs (strKind_is _ _ k t) hd.dictOf (fun h' hd' hs=>?_) (by rw [hr.length];exact hz)
  obtain ⟨ep',hat⟩:=hd'.dictAt
  exact q _ ep' (S.setObj e (by intro _ _ z;cases z) hs fun D=>⟨_,hat,hr.store hk hv⟩) (m.step _ _)
theorem Znm {v o:PySem.Expr} {n:Str} {p:Pos} {l:Nat} {env:Env}:swapsWith v (some (.Attribute o n p)) l env=pure false:=by
  cases v <;> rfl
theorem Zo9 {A:Around} {R:RR} {H:Zaa} {s s0:Shared} {E:Value→Shared→Prop} {p:Addr} {j:Int} {t:Tok} {xs:List AV} {x:AV} {u:Value} {Q:Unit→Shared→Prop} (hv:VR x u) (e:H p=some (.list xs)) (h0:0≤j) (h1:j < xs.length) (hz:xs.length < 2 ^ 62)
    (S:St g.c R H s.heap) (m:Sm s0 s) (q:∀ s',St g.c R (up H p (.list (xs.set j.toNat x))) s'.heap→Sm s0 s'→Q () s'):wpAny (model g.c.prog g.c.w) A (setItem (.ref p) (.int j t) u) Q E s:=by
  obtain ⟨vs,n,k1,k2,k3⟩:=Za9 S e
  have hl:=k2.length
  have hfin:∀ i:Nat,i=j.toNat→Q () { s with heap:=s.heap.update p (Obj.mapSeq (·.setIfInBounds i u)) }:=by
    rintro i rfl
    have hg:∃ n',(s.heap.update p (Obj.mapSeq (·.setIfInBounds j.toNat u))).get? p=some (listOf (vs.toArray.setIfInBounds j.toNat u) n'):=⟨_,Heap.get?_update_self (Obj.mapSeq (·.setIfInBounds j.toNat u)) k1 rfl⟩
    obtain ⟨n',hg⟩:=hg
    rw [List.setIfInBounds_toArray] at hg
    exact q _ (S.setObj (o':=.list (xs.set j.toNat x)) e (by intro _ _ z;cases z) (Heap.SameBut.update ..) fun D=>⟨vs.set j.toNat u,n',hg,k2.set hv _⟩) (m.heap _)
  unfold setItem
  try with_reducible refine wpAny_holding ?_
  refine wpAny_bind (wpAny_sequenceKey k3.typeIs (by decide) ?_)
  refine wpAny_bind (wpAny_callSpecial?_slot (name:=Str.ofString "__setitem__") k3.typeIs PySem.F.slot_list_setitem
    (wpAny_call_entry PySem.F.slot_list_setitem k3.typeIs PySem.F.entry_list_setitem ?_ (PySem.F.args_list_setitem_3 _ _ _)))
  show wpAny _ _ (Builtin.List.listSubscript? (.int j t) >>= _) _ _ s
  refine wpAny_bind (wpAny_listSubscript_int (fitsIndex_of h0 (by lia)) ?_)
  obtain ⟨i,rfl⟩:=Int.eq_ofNat_of_zero_le h0
  have hj:i < vs.toArray.size:=by simp only [List.size_toArray];lia
  have hx':vs.toArray[i]? = some vs.toArray[i]:=Array.getElem?_eq_getElem hj
  show wpAny _ _ ((seqItemAt p i >>= fun r=>pure (r.map (i,·))) >>= _) _ _ s
  refine wpAny_bind (wpAny_bind (wpAny_seqItemAt k1 rfl (wpAny_pure ?_)))
  rw [hx']
  show wpAny _ _ (setSeqItemAt p i u >>= _) _ _ s
  refine wpAny_bind (wpAny_setSeqItemAt k1 rfl ?_)
  first
    | exact wpAny_bind (wpAny_pure (wpAny_pure ⟨.none,rfl,wpAny_pure (hfin i rfl)⟩))
    | exact wpAny_pure ⟨.none,rfl,wpAny_pure (hfin i rfl)⟩
set_option tactic.hygienic true in
theorem Znr {a i:X} {e:X} {o ix v:PySem.Expr} {p pos:Pos} (hns:Zhr ix=true) (ha:XMd g sc nm a o) (hi:XMd g sc nm i ix) (hx:XMd g sc nm e v):SOk g sc nm (fun g=>wpS g (.assign (.sub a i) e)) (exec (.Assign [.Subscript o ix p] v pos)) :=
  fun md A env l₀ R V s0 s H QN QR E ev fr S m q=>by
  dsimp only [Zay,Zbt,Zaj,Zal,Za4,Zbd,Zbu,Zdp,Zct,tv,tsub,tattr,ttup] at q
  refine wpAny_Assign_Subscript (wpAny_mono ((hx md A R V env env l₀ s0 ev fr).1 H s _ _ S m q) (fun u s₁ z=>?_) fun _ _ z=>Zfa fr z) Zo1
  obtain ⟨av,H₁,hv,S₁,m₁,q₁⟩:=z
  refine wpAny_mono ((ha md A R V env env l₀ s0 ev fr).1 H₁ s₁ _ _ S₁ m₁ q₁) (fun ov s₂ z=>?_) fun _ _ z=>Zfa fr z
  obtain ⟨ao,H₂,ho,S2,m₂,q₂⟩:=z
  refine wpAny_mono ((hi md A R V env env l₀ s0 ev fr).1 H₂ s₂ _ _ S2 m₂ q₂) (fun iv s₃ z=>?_) fun _ _ z=>Zfa fr z
  obtain ⟨ai,H₃,hiv,S3,m3,q₃⟩:=z
  split at q₃
  · cases ho
    cases hiv with
    | str k t hk =>
    split at q₃
    · rename_i ep es e
      exact Zpa hv hk e q₃.1 S3 m3 fun s' ep' S' m'=>⟨R,V,_,.refl,fr,S',m',q₃.2 ep'⟩
    · exact q₃.elim
  · cases ho
    cases hiv with
    | int j t =>
    split at q₃
    · rename_i xs e
      exact Zo9 hv e q₃.1 q₃.2.1 q₃.2.2.1 S3 m3 fun s' S' m'=>⟨R,V,_,.refl,fr,S',m',q₃.2.2.2⟩
    · exact q₃.elim
  · exact q₃.elim
noncomputable def putR (n:String) (a:AV):List (String×AV)→List (String×AV)
  | []=>[(n,a)]
  | (k,b) :: r=>if k=n then (k,a) :: r else (k,b) :: putR n a r
theorem Zya {n:String} {a:AV} {es:List (String×AV)} (nd:(es.map (·.1)).Nodup):putA es n a=putR n a es:=by
  induction es with
  | nil=>rfl
  | cons kb r ih =>
    obtain ⟨k,b⟩:=kb
    rw [List.map_cons,List.nodup_cons] at nd
    replace ih:=ih nd.2
    unfold putA at *
    rw [putR]
    by_cases z:k=n
    · have h2:(Zd3 ((k,b) :: r) n).isSome=true:=by simp [Zd3,z]
      rw [h2,if_pos rfl,if_pos z,List.map_cons,if_pos z]
      congr 1
      refine (List.map_congr_left fun e he=>?_).trans (List.map_id r)
      have hne:e.1≠n:=fun w=>nd.1 (by show k∈_;rw [z,← w];exact List.mem_map.mpr ⟨e,he,rfl⟩)
      rw [if_neg hne];rfl
    · have h2:(Zd3 ((k,b) :: r) n).isSome=(Zd3 r n).isSome:=by simp [Zd3,z]
      rw [h2,if_neg z,← ih]
      split
      · rw [List.map_cons,if_neg z]
      · rfl
theorem Zrp {n:String} {hsh:Int} {t:Tok} {a:AV} {v:Value} (hv:VR a v) {es:List (String×AV)} {ents:List DictEntry} (h:Zcg es ents):Zcg (putR n a es) (putL (Str.ofString n) hsh (.str (Str.ofString n) t) v ents):=by
  induction es generalizing ents with
  | nil=>cases ents with
    | nil=>exact ⟨⟨t,rfl⟩,hv,trivial⟩
    | cons=>exact h.elim
  | cons kb r ih =>
    cases ents with
    | nil=>exact h.elim
    | cons e q =>
    obtain ⟨k,b⟩:=kb
    obtain ⟨⟨t',hk⟩,hb,hr⟩:=h
    replace ih:=ih hr
    unfold putR putL
    by_cases z:k=n
    · have h1:e.key.isStr (Str.ofString n)=true:=by rw [hk,z];simp [Value.isStr]
      rw [h1,if_pos rfl,if_pos z]
      exact ⟨⟨t',hk⟩,hv,hr⟩
    · have h1:e.key.isStr (Str.ofString n)=false:=by
        rw [hk]
        show (Str.ofString k == Str.ofString n)=false
        rw [beq_eq_false_iff_ne]
        exact fun w=>z (Zgd w)
      rw [h1,if_neg Bool.false_ne_true,if_neg z]
      exact ⟨⟨t',hk⟩,hb,ih⟩
theorem Zk5:∀ {es:List (String×AV)} {ents:List DictEntry},Zcg es ents→ents.length=es.length
  | [],[],_=>rfl
  | _ :: _,_ :: _,h=>congrArg Nat.succ (Zk5 h.2.2)
  | [],_ :: _,h=>h.elim
  | _ :: _,[],h=>h.elim
theorem Zmj {n:Str} {hsh:Int} {k v:Value}:∀ {ents:List DictEntry},(putL n hsh k v ents).length≤ents.length + 1
  | []=>Nat.le_refl _
  | e :: r=>by
    unfold putL
    split
    · exact Nat.le_succ _
    · exact Nat.succ_le_succ Zmj
set_option tactic.hygienic true in
theorem Zph {es:List (String×AV)} {n:String} {a:AV} (nd:(es.map (·.1)).Nodup):((putA es n a).map (·.1)).Nodup:=by
  unfold putA
  split
  · rw [List.map_map,show ((fun x:String×AV=>x.1) ∘ fun e=>if e.1=n then (e.1,a) else e)=(·.1) from by funext e;simp only [Function.comp];split <;> rfl]
    exact nd
  · rename_i h
    rw [List.map_append,List.nodup_append]
    refine ⟨nd,by simp,fun x hx y hy=>?_⟩
    simp only [List.map_cons,List.map_nil,List.mem_singleton] at hy
    subst hy
    rintro rfl
    apply h
    obtain ⟨e,he,rfl⟩:=List.mem_map.mp hx
    unfold Zd3
    rw [Option.isSome_map,List.find?_isSome]
    exact ⟨e,he,by simp⟩
theorem Zpb {A:Around} {R:RR} {H:Zaa} {s s0:Shared} {E:Value→Shared→Prop} {p:Addr} {n cl:String} {es:List (String×AV)} {x:AV} {u:Value} {Q:Unit→Shared→Prop} (C:g.c.Ok mg mb) (PO:PgOk g.c) (hv:VR x u) (e:H p=some (.inst cl es)) (hat:g.c.P.attrs.contains (cl,n)=true) (hz:es.length≤100)
    (S:St g.c R H s.heap) (m:Sm s0 s) (q:∀ s',St g.c R (up H p (.inst cl (putA es n x))) s'.heap→Sm s0 s'→Q () s'):wpAny (model g.c.prog g.c.w) A (setAttr (.ref p) (Str.ofString n) u) Q E s:=by
  obtain ⟨c1,c2,c3,c4,c5,c6⟩:=PO.attr cl n hat
  obtain ⟨d,ents,k,x1,x2,x3,x4,x5⟩:=S.setAttr e
  have X:=C.kin.keeps S.stays
  have I:InstAt s.heap p (instObj (g.c.ca cl) d) (g.c.ca cl) (some (dictOf ents k)):=⟨x1,rfl,rfl,x2⟩
  obtain ⟨f1,f2⟩:=Zf9 (n:=n) x3
  have hlen:=Zk5 x3
  obtain ⟨cd,hc,hd'⟩:=any_some c2
  refine set_plain X I c4 ?_
  refine osa_open X (⟨x1,rfl,rfl,x2⟩:InstAt s.heap p (instObj (g.c.ca cl) d) (g.c.ca cl) (some (dictOf ents k))) c5 c6 fun b=>?_
  refine wpAny_bind (wpAny_pure (wpAny_bind (wpAny_bind (wpAny_loadPart x1 (wpAny_bind (Looks.here (s:={ s with toks:=s.toks + 1 }) (looks_clsIn X hc) ?_))))))
  rw [hd']
  refine wpAny_pure (a:=some d) (wpAny_bind (wpAny_pure (wpAny_bind ?_)))
  unfold nsSet
  refine wpAny_bind (wpAny_bind (wpAny_askSetting (wpAny_pure (wpAny_bind (wpAny_mkText (wpAny_bind (wpAny_loadPart x2 ?_)))))))
  dsimp only
  have hc':(!ents.toArray.any (·.key.isStr (Str.ofString n)) && ents.toArray.any (·.refKey))=false:=by
    have h1:ents.toArray.any (·.refKey)=ents.any (·.refKey):=by rw [← Array.any_toList]
    rw [h1,f2,Bool.and_false]
  rw [aRefKeyMayBeTheName_at,hc']
  refine wpAny_updatePart x2 ?_
  have hg:∀ (tk:Tok),(s.heap.update d (Obj.putName (Str.ofString n) (PyData.keyHash g.c.w.params (Str.ofString n)) (.str (Str.ofString n) tk) u)).get? d=some (dictOf (putL (Str.ofString n) (PyData.keyHash g.c.w.params (Str.ofString n)) (.str (Str.ofString n) tk) u ents) (putN (Str.ofString n) ents k)):=fun tk=>by
    refine (Heap.get?_update_self _ x2 ?_).trans ?_
    · rw [putName_dict];rfl
    · rw [putName_dict]
  refine wpAny_bind (wpAny_lookBehind (hg _) (pastItsLine_dict (by rw [List.size_toArray,sizeLine_eq];have:=Zmj (n:=Str.ofString n) (hsh:=PyData.keyHash g.c.w.params (Str.ofString n)) (k:=.str (Str.ofString n) (s.toks + 1)) (v:=u) (ents:=ents);lia)) ?_)
  refine wpAny_pure (q _ (x5 _ _ _ _ (Heap.SameBut.update ..) (hg _) ?_ (Zph x4)) (m.step _ _))
  rw [Zya x4]
  exact Zrp hv x3
set_option tactic.hygienic true in
theorem Zld {a:X} {n:String} {e:X} {o v:PySem.Expr} {p pos:Pos} (C:g.c.Ok mg mb) (PO:PgOk g.c) (ha:XMd g sc nm a o) (hx:XMd g sc nm e v):SOk g sc nm (fun g=>wpS g (.assign (.attr a n) e)) (exec (.Assign [.Attribute o (Str.ofString n) p] v pos)) :=
  fun md A env l₀ R V s0 s H QN QR E ev fr S m q=>by
  dsimp only [Zay,Zbt,Zaj,Zal,Za4,Zbd,Zbu,Zdp,Zct,tv,tsub,tattr,ttup] at q
  refine plainObj_wpAny_Assign_Attribute (wpAny_mono ((hx md A R V env env l₀ s0 ev fr).1 H s _ _ S m q) (fun u s₁ z=>?_) fun _ _ z=>Zfa fr z) Znm
  obtain ⟨av,H₁,hv,S₁,m₁,q₁⟩:=z
  refine wpAny_mono ((ha md A R V env env l₀ s0 ev fr).1 H₁ s₁ _ _ S₁ m₁ q₁) (fun ov s₂ z=>?_) fun _ _ z=>Zfa fr z
  obtain ⟨ao,H₂,ho,S2,m₂,q₂⟩:=z
  split at q₂
  · cases ho
    split at q₂
    · rename_i cl es e
      exact Zpb (g:={ g with md:=md }) C PO hv e q₂.1 q₂.2.1 S2 m₂ fun s' S' m'=>⟨R,V,_,.refl,fr,S',m',q₂.2.2⟩
    · exact q₂.elim
  · exact q₂.elim
theorem Zvr {cl:String} {msg:Str} {fe:PySem.Expr} {k:Nat} {mp cp pos:Pos} (C:g.c.Ok mg mb) (PO:PgOk g.c) (hn:Zb2 sc cl fe=true) (hx:(g.c.P.excs.lookup cl).isSome=true):SOk g sc nm (fun g=>wpS g (.raise cl msg)) (exec (.Raise (some (.Call fe [.Constant (.str msg) k mp] [] cp)) none pos)) :=
  fun md A env l₀ R V s0 s H QN QR E ev fr S m q=>by
  dsimp only [Zay,Zbt,Zaj,Zal,Za4,Zbd,Zbu,Zdp,Zct] at q
  obtain ⟨hmd,q⟩:=q
  subst hmd
  obtain ⟨r1,r2,_⟩:=PO.excR cl hx
  obtain ⟨pp,loose,T⟩:=C.top
  obtain ⟨tl,N,nmm,qn,bs,hdct,sn,sub,ab,col,dd,k0,k1,k2,k3,k5,mN,hC,hN,hni,TL⟩:=((own_of_in C.kin T r1 r2).keeps S.stays).obj
  have FB:=PySem.F.excBase_ValueError
  obtain ⟨id,p,rfl⟩:=Zd2 hn
  refine wpAny_Raise_call_subT (C:=g.c.ca cl) (nm:=nmm) (q:=qn) (N:=N) (bs:=bs) (bm:=tl) (hdct:=hdct) (sn:=sn) (sub:=sub) (ab:=ab) (col:=col) (dd:=dd) (k0:=k0) (k1:=k1) (k2:=k2) (k3:=k3) (k5:=k5)
    FB (mN:=mN) (TL.hasType FB.hasBase) (ev.aok.hand rfl) rfl hni (Zkk C fr S hn r1 ⟨rfl,?_⟩)
  refine evalArgs_plain (spliced_cons (wpAny_Constant_str (k:=k) (pos:=mp) (spliced_nil ⟨rfl,by show 1≤sizeLine;decide,hC,hN,TL,fun h' e hm=>?_⟩)))
  obtain ⟨t,ht,_⟩:=hm.there
  obtain ⟨mm,hmm,_⟩:=fr.ns
  obtain ⟨H₁,S,rl⟩:=S
  have S':St1 g.c R H₁ h':=by
    refine S.noted (ls:=[]) (fun a ha=>by cases ha) (fun b o z _=>hm.keeps b o z) (fun b o z _=>⟨o.slots,hm.keeps b o z⟩) ?_
    obtain ⟨oL,es,ep,w,_⟩:=(S.res _ _ hmm).2
    have h1:=leN (S.res _ _ hmm).1
    have h2:=lts (hm.keeps _ _ w)
    exact Nat.le_of_lt (Nat.lt_of_le_of_lt h1 h2)
  refine ⟨e,cl,R,V,H,.ellipsis,rfl,.refl,fr,.inl rfl,⟨H₁,⟨S',?_,?_,?_,.fresh ht,hx⟩,rl⟩,m.step _ _,q⟩
  · cases z:R e with
    | none=>rfl
    | some r=>obtain ⟨ob,w⟩:=(S.res _ _ z).2.there;have:=hm.new;rw [show s.heap.get? e=some ob from w] at this;cases this
  · cases z:H₁ e with
    | none=>rfl
    | some r=>obtain ⟨D,s4⟩:=S.rep;obtain ⟨ob,w⟩:=(s4.rep _ _ z).there;have:=hm.new;rw [show s.heap.get? e=some ob from w] at this;cases this
  · cases z:g.c.base.get? e with
    | none=>rfl
    | some r=>have w:=S.stays _ _ z;have:=hm.new;rw [show s.heap.get? e=some r from w] at this;cases this
set_option tactic.hygienic true in
theorem Zq8 {M:Model} {A:Around} {E:Value→Shared→Prop} {s:Shared} {K:Frag} {e C D:Addr} {oe:Obj} {r:Bool} {Q:Bool→Shared→Prop} (X:K.In s.heap) (he:s.heap.get? e=some oe) (hc:oe.cls = .ref C)
    (h1:instIn K (.ref D) (.type "tuple")=some false) (h2:subIn K (.ref D) (.type "BaseException")=some true) (h3:(clsIn K D).isSome=true) (h4:subIn K (.ref C) (.ref D)=some r) (q:Q r s) :
    wpAny M A (excMatches (.ref e) (.ref D)) Q E s:=by
  obtain ⟨hh,gg,d,tt,os⟩:=s
  have L1:=looks_instIn (M:=M) X h1
  have L2:=looks_subIn (M:=M) X h2
  have L4:=looks_subIn (M:=M) X h4
  have LT:Looks M hh (typeOf (.ref e)) (.ref C):=by rw [← hc];exact (Looks.ld he).andThen .now
  obtain ⟨cd,h3⟩:=Option.isSome_iff_exists.mp h3
  unfold excMatches
  refine wpAny_bind (L1.at ?_)
  dsimp only [Bool.false_eq_true,if_false]
  refine wpAny_bind (wpAny_pure (wpAny_bind ?_))
  have L5:Looks M hh (isExcClass (.ref D)) true:=by
    unfold clsIn at h3
    split at h3
    · rename_i ho
      have Lt:Looks M hh (isType (.ref D)) true:=(Looks.ld (part:=none) (X _ _ ho)).andThen .now
      intro A' Q' E' s' k' q'
      unfold isExcClass
      refine wpAny_bind (Lt A' _ E' s' k' ?_)
      rw [if_pos rfl]
      exact L2 A' _ E' s' k' q'
    · cases h3
  rw [List.forIn_cons]
  refine wpAny_bind (wpAny_bind (L5.at ?_))
  simp only [Bool.not_true,Bool.false_eq_true,if_false]
  refine wpAny_pure ?_
  dsimp only
  rw [List.forIn_nil]
  refine wpAny_pure (wpAny_bind (LT.at (wpAny_bind ?_)))
  rw [List.forIn_cons]
  refine wpAny_bind (wpAny_bind (L4.at ?_))
  cases r with
  | true =>
    dsimp only [if_true]
    exact wpAny_pure (wpAny_pure (wpAny_pure q))
  | false =>
    dsimp only [Bool.false_eq_true,if_false]
    refine wpAny_pure ?_
    dsimp only
    rw [List.forIn_nil]
    exact wpAny_pure (wpAny_pure q)
end
end Mine
end
section
open PySem PySem.W PyProof.Rows PySem.Spec PySem.SeqAt PySem.Calls
namespace Mine
section
variable {g:Gx} {sc:Scope} {nm:List Str} {mg mb:Str→Option Value}
noncomputable def HdOk (g:Gx) (sc:Scope) (nm:List Str):Hd→ExceptHandler→Prop
  | .mk cl nmi b,.ExceptHandler (some t) name (x :: body) _=>Zb2 sc cl t=true∧(g.c.P.excs.lookup cl).isSome=true∧SOk g sc nm (fun g=>wpSs g b) (execs (x :: body))∧nmOk sc nm nmi name=true
  | _,_=>False
inductive Zk8 (P:Hd→ExceptHandler→Prop):List Hd→List ExceptHandler→Prop
  | nil:Zk8 P [] []
  | cons {x e xs es}:P x e→Zk8 P xs es→Zk8 P (x :: xs) (e :: es)
theorem Zw4 {A:Around} {R:RR} {env:Env} {l₀:List Env} {e:Value} (ev:Ev { g with md:=true } A R env l₀):Ev { g with md:=false } (A.mark (some e)) R env l₀ :=
  ⟨⟨ev.aok.frames,ev.aok.depth,ev.aok.units,fun h=>by cases h⟩,ev.stk⟩
theorem Zr7 {env:Env} {R:RR} {s0 s:Shared} {e:Value} (h:TX g env sc nm R s0 (fun _ _ _=>False) e s) {P:Prop}:P:=by
  obtain ⟨_,_,_,_,_,_,_,_,_,_,_,_,q⟩:=h
  exact q.elim
theorem Z00 (C:g.c.Ok mg mb) (PO:PgOk g.c) (nd:nm.Nodup) {hs:List Hd} {es:List ExceptHandler} (hh:Zk8 (HdOk g sc nm) hs es):∀ (A:Around) (env:Env) (l₀:List Env) (R:RR) (V:VV) (s0 s:Shared) (H:Zaa) (e:Addr) (cl:String) (QN:VV→Zaa→Prop) (QR:AV→Zaa→Prop) (E:String→VV→Zaa→Prop),
    Ev { g with md:=true } A R env l₀→Frm R env sc nm V→ExcSt g.c R H e cl .none s.heap→Sm s0 s→wpHs { g with md:=true } hs cl QN QR E V H →
    wpAny (model g.c.prog g.c.w) A (handleBy (.ref e) env es) (TF g env sc nm R s0 QN QR) (TX g env sc nm R s0 E) s:=by
  induction hh with
  | nil=>exact fun A env l₀ R V s0 s H e cl QN QR E ev fr X m q=>q.elim
  | @cons x eh _ _ h r ih =>
    intro A env l₀ R V s0 s H e cl QN QR E ev fr X m q
    obtain ⟨c,nmi,b⟩:=x
    obtain ⟨ty,name,body,pos⟩:=eh
    rw [Zm3,Zzm] at q
    cases ty with
    | none=>exact h.elim
    | some t =>
    cases body with
    | nil=>exact h.elim
    | cons b₀ body =>
    obtain ⟨h1,h2,h3,h4⟩:=h
    obtain ⟨r1,r2,r3,r4,r5,_⟩:=PO.excR c h2
    obtain ⟨o,vs,o1,o2,o3⟩:=X.obj
    refine wpAny_handleBy_cons (codeAny_handlers_test (Zkk C fr X.st h1 r1 ?_)) (by intro z;cases z)
    refine Zq8 (C.kin.keeps X.st.stays) o1 o2 r3 r4 r5 (PO.excC cl c X.kn h2) ?_
    cases hsub:Ziv g.c.P cl c with
    | false =>
      simp only [hsub,Bool.false_eq_true,if_false] at q ⊢
      exact ih A env l₀ R V s0 s H e cl QN QR E ev fr X m q
    | true =>
      simp only [hsub,if_true] at q ⊢
      cases nmi with
      | none =>
        cases name with
        | some=>exact Bool.noConfusion h4
        | none =>
        refine codeAny_handlers_suite (Zf6 X (by simp) fun h' X'=>?_)
        refine wpAny_mono (h3 false (A.mark (some (.ref e))) env l₀ R V s0 { s with heap:=h' } H QN QR (fun _ _ _=>False) (Zw4 ev) fr X'.st (m.heap h') q) (fun f s' z=>z) fun _ _ z=>Zr7 z
      | some i=>exact Bool.noConfusion h4
theorem Z0e {b:List S} {hs:List Hd} {x:List Stmt} {h₀:ExceptHandler} {es:List ExceptHandler} {pos:Pos} (C:g.c.Ok mg mb) (PO:PgOk g.c) (nd:nm.Nodup) (hb:SOk g sc nm (fun g=>wpSs g b) (execs x)) (hh:Zk8 (HdOk g sc nm) hs (h₀ :: es)) :
    SOk g sc nm (fun g=>wpS g (.try b hs)) (exec (.Try x (h₀ :: es) [] [] pos)):=fun md A env l₀ R V s0 s H QN QR E ev fr S m q=>by
  dsimp only [Zay,Zbt,Zaj,Zal,Za4,Zbd,Zbu,Zdp,Zct] at q
  obtain ⟨hmd,q⟩:=q
  subst hmd
  refine wpAny_Try_except (wpAny_mono (hb true A env l₀ R V s0 s H _ QR _ ev fr S m q) (fun f s₁ z=>?_) fun e s₁ z=>?_)
  · cases f with
    | next=>exact wpAny_execs_nil z
    | ret v=>exact z
    | brk=>exact z
    | cont=>exact z
  · obtain ⟨a,cl,R',V',H',fl,rfl,r,f',hfl,X,m',q'⟩:=z
    refine Znc ev.aok.frames (r.stk ev.stk) X hfl fun h₁ X1=>?_
    refine Zf6 (s:={ s₁ with heap:=h₁ }) X1 (by simp [rawInt]) fun h₂ X2=>?_
    exact wpAny_mono (Z00 C PO nd hh A env l₀ R' V' s0 { s₁ with heap:=h₂ } H' a cl QN QR E (ev.step r) f' X2 (m'.heap h₂) q') (fun _ _ z=>z.trans r) fun _ _ z=>z.trans r
theorem Zt3 {e:X} {m:X→Prop} (h:Zqr e=true) (f:∀ x k tup it c,m (.comp x k tup it c)):m e:=X.comp.elim (motive_1:=m) e (eq_of_beq h) f
theorem Zsf {msg:Str} {es:List PySem.Expr} {m:List PySem.Expr→Prop} (h:Zy0 msg es=true) (f:∀ k p,m [.Constant (.str msg) k p]):m es :=
  Ze0 h fun e h=>Zhq (m:=fun e=>m [e]) h fun _ k p h=>eq_of_beq (and2 h).1 ▸ f k p
variable (C:g.c.Ok mg mb) (PO:PgOk g.c) (nd:nm.Nodup)
include C PO in
theorem xmd {e:X} {v:PySem.Expr} (h:mtX g.c.P true sc nm e v=true):XMd g sc nm e v:=fun md=>sX (g:={ g with md:=md }) C PO e v true sc nm h
include C PO nd in
theorem sAs {t:T} {e:X} {tg v:PySem.Expr} {pos:Pos} (h1:(Ze1 v || (isLC v && Zqr e))=true) (h0:(Zkd v || Zlt t)=true) (h2:mtT g.c.P sc nm t tg=true) (h3:mtX g.c.P true sc nm e v=true) :
    SOk g sc nm (fun g=>wpS g (.assign t e)) (exec (.Assign [tg] v pos)):=by
  cases t with
  | var i =>
    cases hc:Ze1 v with
    | true=>exact Znp nd hc h2 (xmd C PO h3)
    | false =>
      rw [hc,Bool.false_or] at h1
      clear h0
      revert h1 h3
      refine fun h1=>Zt3 (m:=fun e=>mtX g.c.P true sc nm e v=true→SOk g sc nm (fun g=>wpS g (.assign (.var i) e)) (exec (.Assign [tg] v pos))) (and2 h1).2 fun x k tup it cc h3=>?_
      refine Zkg (m:=fun v=>XMd g sc nm (.comp x k tup it cc) v→SOk g sc nm (fun g=>wpS g (.assign (.var i) (.comp x k tup it cc))) (exec (.Assign [tg] v pos))) h3 (fun elt ctg iter ifs csc ts p htg o=>?_) (xmd C PO h3)
      rw [o.len]
      exact fun hx=>Zlc C htg nd h2 o.sc o.set (xmd C PO o.it) (fun md=>sX (g:={ g with md:=md }) C PO x elt false _ _ o.x) (fun md=>sC (g:={ g with md:=md }) C PO cc ifs _ _ o.c) hx
  | sub a i=>exact Zmu (m:=fun tg=>SOk g sc nm (fun g=>wpS g (.assign (.sub a i) e)) (exec (.Assign [tg] v pos))) h2 fun _ _ _ k1 k2 k3=>Znr k1 (xmd C PO k2) (xmd C PO k3) (xmd C PO h3)
  | tup is =>
    have hn:Zkd v=true:=by rw [show Zlt (.tup is)=false from rfl,Bool.or_false] at h0;exact h0
    exact Znq C nd hn h2 (xmd C PO h3)
  | attr a n=>exact Zer (m:=fun tg=>SOk g sc nm (fun g=>wpS g (.assign (.attr a n) e)) (exec (.Assign [tg] v pos))) h2 fun o _ p k=>eq_of_beq (and2 k).1 ▸ Zld C PO (xmd C PO (and2 k).2) (xmd C PO h3)
include C PO nd in
mutual
theorem sS:∀ (st:S) (t:Stmt),mtS g.c.P sc nm st t=true→SOk g sc nm (fun g=>wpS g st) (exec t)
  | .assign t e,st,h=>Zp3 (m:=fun st=>SOk g sc nm (fun g=>wpS g (.assign t e)) (exec st)) h fun ts v p h=>Ze0 (m:=fun ts=>SOk g sc nm (fun g=>wpS g (.assign t e)) (exec (.Assign ts v p))) h fun tg h =>
    have h3:=and2 h;have h2:=and2 h3.1;have h1:=and2 h2.1;sAs C PO nd h1.1 h1.2 h2.2 h3.2
  | .expr e,st,h=>Zn2 (m:=fun st=>SOk g sc nm (fun g=>wpS g (.expr e)) (exec st)) h fun v p h=>Zx2 (and2 h).1 (xmd C PO (and2 h).2)
  | .ret e,st,h=>Zpx (m:=fun st=>SOk g sc nm (fun g=>wpS g (.ret e)) (exec st)) h fun v p h=>Zeq (m:=fun v=>SOk g sc nm (fun g=>wpS g (.ret e)) (exec (.Return v p))) h fun v h=>Z0i (xmd C PO h)
  | .ite c a b,st,h=>Zpz (m:=fun st=>SOk g sc nm (fun g=>wpS g (.ite c a b)) (exec st)) h fun t x y p h=>have h2:=and2 h;have h1:=and2 h2.1;s_if (xmd C PO h1.1) (sSs a x h1.2) (sSs b y h2.2)
  | .while c b,st,h=>Zlo (m:=fun st=>SOk g sc nm (fun g=>wpS g (.while c b)) (exec st)) h fun t x o p h=>have h1:=and2 (and2 h).2;Zb6 (m:=fun o=>SOk g sc nm (fun g=>wpS g (.while c b)) (exec (.While t x o p))) (and2 h).1 (Zvp (xmd C PO h1.1) (sSs b x h1.2))
  | .for t it b,st,h=>Zp0 (m:=fun st=>SOk g sc nm (fun g=>wpS g (.for t it b)) (exec st)) h fun tg i x o p h=>have h3:=and2 (and2 h).2;have h2:=and2 h3.1;have h1:=and2 h2.1
    Zb6 (m:=fun o=>SOk g sc nm (fun g=>wpS g (.for t it b)) (exec (.For tg i x o p))) (and2 h).1 (Z0m C nd h1.1 h1.2 (xmd C PO h2.2) (sSs b x h3.2))
  | .raise cl msg,st,h=>Zlr (m:=fun st=>SOk g sc nm (fun g=>wpS g (.raise cl msg)) (exec st)) h fun c z p h=>match z,h with
    | some _,h=>Bool.noConfusion h
    | none,h=>Zeq (m:=fun c=>SOk g sc nm (fun g=>wpS g (.raise cl msg)) (exec (.Raise c none p))) h fun c h=>Zfn (m:=fun c=>SOk g sc nm (fun g=>wpS g (.raise cl msg)) (exec (.Raise (some c) none p))) h fun fe as q h1 h2 h3 =>
      Zsf (m:=fun as=>SOk g sc nm (fun g=>wpS g (.raise cl msg)) (exec (.Raise (some (.Call fe as [] q)) none p))) h3 fun _ _=>Zvr C PO h1 h2
  | .try b hs,st,h=>Zpu (m:=fun st=>SOk g sc nm (fun g=>wpS g (.try b hs)) (exec st)) h fun x hs' o z p h=>have h1:=and2 (and2 h).2;have h0:=and2 (and2 h).1
    Zb6 (m:=fun o=>SOk g sc nm (fun g=>wpS g (.try b hs)) (exec (.Try x hs' o z p))) h0.1 (Zb6 (m:=fun z=>SOk g sc nm (fun g=>wpS g (.try b hs)) (exec (.Try x hs' [] z p))) h0.2
      (Zdk (m:=fun hs'=>SOk g sc nm (fun g=>wpS g (.try b hs)) (exec (.Try x hs' [] [] p))) h1.2 fun h₀ r h=>Z0e C PO nd (sSs b x h1.1) (sHs hs (h₀ :: r) h)))
  | .pass,st,h=>Znz (m:=fun st=>SOk g sc nm (fun g=>wpS g .pass) (exec st)) h fun _ _=>Zx0
theorem sSs:∀ (l:List S) (ts:List Stmt),mtSs g.c.P sc nm l ts=true→SOk g sc nm (fun g=>wpSs g l) (execs ts)
  | [],ts,h=>Zb6 (m:=fun ts=>SOk g sc nm (fun g=>wpSs g []) (execs ts)) h Zxu
  | st :: r,ts,h=>Zdk (m:=fun ts=>SOk g sc nm (fun g=>wpSs g (st :: r)) (execs ts)) h fun e q h=>Zvl (sS st e (and2 h).1) (sSs r q (and2 h).2)
theorem sHs:∀ (l:List Hd) (ts:List ExceptHandler),mtHs g.c.P sc nm l ts=true→Zk8 (HdOk g sc nm) l ts
  | [],ts,h=>Zb6 (m:=Zk8 (HdOk g sc nm) []) h .nil
  | hd :: r,ts,h=>Zdk (m:=Zk8 (HdOk g sc nm) (hd :: r)) h fun e q h=>.cons (sH hd e (and2 h).1) (sHs r q (and2 h).2)
theorem sH:∀ (hd:Hd) (t:ExceptHandler),mtH g.c.P sc nm hd t=true→HdOk g sc nm hd t
  | .mk cl nmi b,.ExceptHandler ty name body p,h=>Zeq (m:=fun ty=>HdOk g sc nm (.mk cl nmi b) (.ExceptHandler ty name body p)) h fun t h=>Zdk (m:=fun body=>HdOk g sc nm (.mk cl nmi b) (.ExceptHandler (some t) name body p)) h fun x body h =>
    have h3:=and2 h;have h2:=and2 h3.1;have h1:=and2 h2.1;⟨h1.1,h1.2,sSs b (x :: body) h2.2,h3.2⟩
end
end
end Mine
end
section
open PySem PySem.W PyProof.Rows PySem.Spec PySem.SeqAt PySem.Calls
namespace Mine
theorem Znh {ns:List Str}:∀ {vs:List Value},ns.length=vs.length→∀ n∈ns,((ns.zip vs).lookup n).isSome=true:=by
  induction ns with
  | nil=>intro vs _ n hn;cases hn
  | cons a r ih =>
    intro vs hl n hn
    cases vs with
    | nil=>simp at hl
    | cons v vs =>
      simp only [List.zip_cons_cons,List.lookup_cons]
      cases hb:n == a with
      | true=>rfl
      | false =>
        have hne:n≠a:=by simpa using hb
        rcases List.mem_cons.mp hn with h | h
        · exact absurd h hne
        · exact ih (by simpa using hl) n h
theorem Zna {α β:Type} {f g:α→Option β}:∀ {l:List α},(∀ x∈l,f x=g x)→l.filterMap f=l.filterMap g
  | [],_=>rfl
  | a :: r,h=>by rw [List.filterMap_cons,List.filterMap_cons,h a (.head _),Zna fun x hx=>h x (.tail _ hx)]
theorem Zi0 {ns:List Str}:∀ {vs:List Value},ns.Nodup→ns.length=vs.length→(ns.filterMap fun n=>((ns.zip vs).lookup n).map fun v=>(n,v))=ns.zip vs:=by
  induction ns with
  | nil=>intro vs _ _;rfl
  | cons a r ih =>
    intro vs hn hl
    cases vs with
    | nil=>simp at hl
    | cons v vs =>
      obtain ⟨h1,h2⟩:=List.nodup_cons.mp hn
      simp only [List.zip_cons_cons,List.filterMap_cons,List.lookup_cons,beq_self_eq_true,Option.map_some]
      congr 1
      refine Eq.trans ?_ (ih h2 (by simpa using hl))
      apply Zna
      intro n hn'
      have hne:(n == a)=false:=by
        apply beq_eq_false_iff_ne.mpr
        rintro rfl;exact h1 hn'
      simp only [hne]
theorem Zqn {α:Type} {M:Model} {A:Around} {E:Value→Shared→Prop} {s:Shared} {Q:α→Shared→Prop} {c:Prop} [Decidable c] {a b:Sem α} (hc:¬c) (h:wpAny M A b Q E s):wpAny M A (if c then a else b) Q E s:=by rw [if_neg hc];exact h
theorem Zoq {s:Shared} {fd:FuncData} {vals:List Value} (h1:fd.params.posonlyargs=[]) (h2:fd.params.vararg=none) (h3:fd.params.kwonlyargs=[]) (h4:fd.params.kwarg=none) (h5:fd.defaults = .none)
    (h6:(fd.params.args.map (·.arg)).Nodup) (h7:fd.params.args.length=vals.length):BindsTo s fd ⟨vals,[]⟩ ((fd.params.args.map (·.arg)).zip vals):=by
  obtain ⟨nm,qn,⟨po,as,va,ko,kd,kw,df⟩,bd,sc,gl,cl,dfl,kdf,dc,pm,an,cd,ct,bl⟩:=fd
  replace h1:po=[]:=h1
  replace h2:va=none:=h2
  replace h3:ko=[]:=h3
  replace h4:kw=none:=h4
  replace h5:dfl = .none:=h5
  subst h1 h2 h3 h4 h5
  intro M A E Q q
  unfold bindArgs
  dsimp only
  refine wpAny_bind (wpAny_pure (wpAny_bind (wpAny_pure (a:=(none:Option (Array Value))) ?_)))
  have hl:(as.map (·.arg)).length=vals.length:=by rw [List.length_map];exact h7
  have ed:∀ k,List.drop k ((none:Option (Array Value)).getD #[]).toList=[]:=fun _=>List.drop_nil
  have e1:(((as.map (·.arg)).take (as.map (·.arg)).length).filter fun n=>(((as.map (·.arg)).zip vals).lookup n).isNone)=[]:=by
    rw [List.take_length,List.filter_eq_nil_iff]
    intro n hn
    have:=Znh hl n hn
    simpa using this
  refine Zqn (fun z=>Nat.lt_irrefl _ (Nat.lt_of_lt_of_eq (of_decide_eq_true (and2 z).1) hl.symm)) ?_
  rw [ed]
  refine Zqn (fun z=>Bool.noConfusion (((congrArg (fun l=>!l.isEmpty) e1).symm.trans z))) ?_
  rw [List.zip_nil_right]
  refine wpAny_bind (wpAny_pure (wpAny_bind (wpAny_pure ?_)))
  refine Zqn (fun z=>Bool.noConfusion z) (wpAny_pure ?_)
  show Q ((as.map (fun a:PySem.Arg=>a.arg) ++ []).filterMap fun n=>(((as.map (fun a:PySem.Arg=>a.arg)).zip vals).lookup n).map fun x=>(n,x)) s
  rw [List.append_nil]
  exact (Zi0 h6 hl).symm ▸ q
theorem St1.news {c:Cx} {R R':RR} {H:Zaa} {h h':Heap} (S:St1 c R H h) (k:∀ b ob,h.get? b=some ob→h'.get? b=some ob) (hs:h.objs.size≤h'.objs.size)
    (hR:∀ b,R' b=R b∨(h.objs.size≤b∧∃ r,R' b=some r∧ResAt h' b r)):St1 c R' H h':=by
  have S':=S.keeps k hs
  obtain ⟨D0,s40⟩:=S.rep
  have hb:=S.size
  refine ⟨S'.stays,S'.size,fun b r e=>?_,D0,⟨fun a ao e=>(s40.rep a ao e).agree (fun _=>k _ _) fun _ _ _=>⟨rfl,fun _=>k _ _⟩,fun a ao e=>?_,fun a cl es e=>?_,s40.inj⟩⟩
  · rcases hR b with q | ⟨q1,r',q2,q3⟩
    · rw [q] at e;exact S'.res b r e
    · rw [q2] at e;cases e;exact ⟨by have:=leN q1;lia,q3⟩
  · refine ⟨(s40.above a ao e).1,?_⟩
    rcases hR a with q | ⟨q1,_⟩
    · rw [q];exact (s40.above a ao e).2
    · obtain ⟨ob,w⟩:=(s40.rep a ao e).there
      have:=lts w;have:=leN q1;lia
  · obtain ⟨y1,y2,y3⟩:=s40.dict a cl es e
    refine ⟨y1,?_,y3⟩
    rcases hR (D0 a) with q | ⟨q1,_⟩
    · rw [q];exact y2
    · obtain ⟨_,ents,n,w,_⟩:=s40.rep a _ e
      have:=lts w;have:=leN q1;lia
theorem St.news {c:Cx} {R R':RR} {H:Zaa} {h h':Heap} (S:St c R H h) (k:∀ b ob,h.get? b=some ob→h'.get? b=some ob) (hs:h.objs.size≤h'.objs.size)
    (hR:∀ b,R' b=R b∨(h.objs.size≤b∧∃ r,R' b=some r∧ResAt h' b r)):St c R' H h':=let ⟨H₁,s,r⟩:=S;⟨H₁,s.news k hs hR,r⟩
theorem Zk1 {kf:Str→Option NameKind}:∀ {bs:List (Str×Value)} {m:Str→Option Value} {n:Str},n ∉ bs.map (·.1)→bindL kf bs m n=m n
  | [],_,_,_=>rfl
  | (a,v) :: r,m,n,h=>by
    simp only [List.map_cons,List.mem_cons,not_or] at h
    unfold bindL
    rw [Zk1 h.2]
    split
    · simp [h.1]
    · rfl
theorem Zk3 {kf:Str→Option NameKind}:∀ {bs:List (Str×Value)} {m:Str→Option Value} {n:Str},n ∉ bs.map (·.1)→bindC kf bs m n=m n
  | [],_,_,_=>rfl
  | (a,v) :: r,m,n,h=>by
    simp only [List.map_cons,List.mem_cons,not_or] at h
    unfold bindC
    rw [Zk3 h.2]
    split
    · rfl
    · simp [h.1]
theorem Zk2 {kf:Str→Option NameKind}:∀ {bs:List (Str×Value)} {m:Str→Option Value} {n:Str} {v:Value} {i:Nat},(bs.map (·.1)).Nodup→bs[i]? = some (n,v)→kf n=some .local→bindL kf bs m n=some v
  | (a,w) :: r,m,n,v,0,hn,e,hk=>by
    simp only [List.getElem?_cons_zero,Option.some.injEq,Prod.mk.injEq] at e
    obtain ⟨rfl,rfl⟩:=e
    simp only [List.map_cons,List.nodup_cons] at hn
    unfold bindL
    rw [Zk1 hn.1,if_pos hk];simp
  | (a,w) :: r,m,n,v,i + 1,hn,e,hk=>by
    simp only [List.getElem?_cons_succ] at e
    simp only [List.map_cons,List.nodup_cons] at hn
    unfold bindL
    exact Zk2 hn.2 e hk
theorem Zk4 {kf:Str→Option NameKind}:∀ {bs:List (Str×Value)} {m:Str→Option Value} {n:Str} {v:Value} {i:Nat},(bs.map (·.1)).Nodup→bs[i]? = some (n,v)→kf n=some .cell→bindC kf bs m n=some v
  | (a,w) :: r,m,n,v,0,hn,e,hk=>by
    simp only [List.getElem?_cons_zero,Option.some.injEq,Prod.mk.injEq] at e
    obtain ⟨rfl,rfl⟩:=e
    simp only [List.map_cons,List.nodup_cons] at hn
    unfold bindC
    rw [Zk3 hn.1,if_neg (by rw [hk];simp)];simp
  | (a,w) :: r,m,n,v,i + 1,hn,e,hk=>by
    simp only [List.getElem?_cons_succ] at e
    simp only [List.map_cons,List.nodup_cons] at hn
    unfold bindC
    exact Zk4 hn.2 e hk
noncomputable def Zuo (d:Data) (k:FuncData→Bool):Bool:=match d with
  | .func fd=>k fd
  | _=>false
theorem Zn1 {d:Data} {k:FuncData→Bool} {C:Prop} (h:Zuo d k=true) (q:∀ fd,d = .func fd→k fd=true→C):C:=by
  cases d with
  | func fd=>exact q fd rfl h
  | _=>cases h
noncomputable def Zpv (d:FuncBody) (k:List Stmt→Bool):Bool:=match d with
  | .stmts b=>k b
  | _=>false
theorem Zlp {d:FuncBody} {k:List Stmt→Bool} {C:Prop} (h:Zpv d k=true) (q:∀ b,d = .stmts b→k b=true→C):C:=by
  cases d with
  | stmts b=>exact q b rfl h
  | _=>cases h
noncomputable def Zyj (d:Option Obj) (k:Obj→Bool):Bool:=match d with
  | some o=>k o
  | none=>false
theorem Zpy {d:Option Obj} {k:Obj→Bool} {C:Prop} (h:Zyj d k=true) (q:∀ o,d=some o→k o=true→C):C:=by
  cases d with
  | some o=>exact q o rfl h
  | none=>cases h
noncomputable def fnOk (K:Frag) (P:Pg) (a:Addr) (F:Fn):Bool:=Zyj (K.lookup a) fun o=>Zuo o.data fun fd=>Zpv fd.body fun body=>fd.globals == mainGlobals && fd.builtins == builtinsNs && fd.closure.isEmpty && fd.defaults == .none && fd.params.posonlyargs.isEmpty && fd.params.vararg.isNone && fd.params.kwonlyargs.isEmpty && fd.params.kwarg.isNone &&
          !fd.scope.isCoroutine && !fd.scope.isGenerator && fd.scope.kind == .function && codeIn K fd.code fd.qualname && (fd.params.args.map (·.arg)) == (F.slots.map Str.ofString).take F.npar && decide (F.npar≤F.slots.length) && decide ((F.slots.map Str.ofString).Nodup) &&
          (F.slots.map Str.ofString).all (fun n=>match fd.scope.names.lookup n with | some .local=>true | some .cell=>((cellsFrom 0 fd.scope.names []).lookup n).isSome | _=>false) && decide ((cellsFrom 0 fd.scope.names []).map (·.1)).Nodup &&
          mtSs P fd.scope (F.slots.map Str.ofString) F.body body
theorem Zfo {l:List (Str×Addr)} {n:Str}:(l.lookup n).isSome=(l.map (·.1)).contains n:=by
  induction l with
  | nil=>rfl
  | cons a r ih =>
    obtain ⟨k,v⟩:=a
    simp only [List.lookup_cons,List.map_cons,List.contains_cons]
    cases hb:n == k with
    | true=>simp
    | false=>simp [ih]
noncomputable def Zgp (F:Fn) (args:List AV):VV:=args.map some ++ List.replicate (F.slots.length - F.npar) none
inductive Zxi (K:Frag) (P:Pg) (a:Addr) (F:Fn):Prop
  | mk (o:Obj) (fd:FuncData) (body:List Stmt) (ho:K.lookup a=some o) (hd:o.data = .func fd) (hb:fd.body = .stmts body) (c1:fd.globals=mainGlobals) (c2:fd.builtins=builtinsNs) (c3:fd.closure=[]) (c4:fd.defaults = .none) (c5:fd.params.posonlyargs=[]) (c6:fd.params.vararg=none) (c7:fd.params.kwonlyargs=[]) (c8:fd.params.kwarg=none)
      (c9:fd.scope.isCoroutine=false) (c10:fd.scope.isGenerator=false) (c11:fd.scope.kind = .function) (c12:codeIn K fd.code fd.qualname=true) (c13:fd.params.args.map (·.arg)=(F.slots.map Str.ofString).take F.npar) (c14:F.npar≤F.slots.length) (c15:(F.slots.map Str.ofString).Nodup)
      (c16:∀ n∈F.slots.map Str.ofString,fd.scope.names.lookup n=some .local∨(fd.scope.names.lookup n=some .cell∧((cellsFrom 0 fd.scope.names []).lookup n).isSome=true)) (c17:((cellsFrom 0 fd.scope.names []).map (·.1)).Nodup) (c18:mtSs P fd.scope (F.slots.map Str.ofString) F.body body=true)
theorem Zwm {fd:FuncData} {n:Str} (h:(match fd.scope.names.lookup n with | some .local=>true | some .cell=>((cellsFrom 0 fd.scope.names []).lookup n).isSome | _=>false)=true):fd.scope.names.lookup n=some .local∨(fd.scope.names.lookup n=some .cell∧((cellsFrom 0 fd.scope.names []).lookup n).isSome=true):=by
  revert h
  cases fd.scope.names.lookup n with
  | none=>exact fun h=>Bool.noConfusion h
  | some k=>cases k <;> first | exact fun _=>.inl rfl | exact fun h=>.inr ⟨rfl,h⟩ | exact fun h=>Bool.noConfusion h
theorem Zts {K:Frag} {P:Pg} {a:Addr} {F:Fn} (h:fnOk K P a F=true):Zxi K P a F :=
  Zpy h fun o ho h=>Zn1 h fun fd hd h=>Zlp h fun body hb h=>⟨o,fd,body,ho,hd,hb,eq_of_beq (and2 (and2 (and2 (and2 (and2 (and2 (and2 (and2 (and2 (and2 (and2 (and2 (and2 (and2 (and2 (and2 (and2 h).1).1).1).1).1).1).1).1).1).1).1).1).1).1).1).1).1,eq_of_beq (and2 (and2 (and2 (and2 (and2 (and2 (and2 (and2 (and2 (and2 (and2 (and2 (and2 (and2 (and2 (and2 (and2 h).1).1).1).1).1).1).1).1).1).1).1).1).1).1).1).1).2,List.isEmpty_iff.mp (and2 (and2 (and2 (and2 (and2 (and2 (and2 (and2 (and2 (and2 (and2 (and2 (and2 (and2 (and2 (and2 h).1).1).1).1).1).1).1).1).1).1).1).1).1).1).1).2,eq_of_beq (and2 (and2 (and2 (and2 (and2 (and2 (and2 (and2 (and2 (and2 (and2 (and2 (and2 (and2 (and2 h).1).1).1).1).1).1).1).1).1).1).1).1).1).1).2,List.isEmpty_iff.mp (and2 (and2 (and2 (and2 (and2 (and2 (and2 (and2 (and2 (and2 (and2 (and2 (and2 (and2 h).1).1).1).1).1).1).1).1).1).1).1).1).1).2,Option.isNone_iff_eq_none.mp (and2 (and2 (and2 (and2 (and2 (and2 (and2 (and2 (and2 (and2 (and2 (and2 (and2 h).1).1).1).1).1).1).1).1).1).1).1).1).2,List.isEmpty_iff.mp (and2 (and2 (and2 (and2 (and2 (and2 (and2 (and2 (and2 (and2 (and2 (and2 h).1).1).1).1).1).1).1).1).1).1).1).2,Option.isNone_iff_eq_none.mp (and2 (and2 (and2 (and2 (and2 (and2 (and2 (and2 (and2 (and2 (and2 h).1).1).1).1).1).1).1).1).1).1).2,(Bool.not_eq_true' _).mp (and2 (and2 (and2 (and2 (and2 (and2 (and2 (and2 (and2 (and2 h).1).1).1).1).1).1).1).1).1).2,(Bool.not_eq_true' _).mp (and2 (and2 (and2 (and2 (and2 (and2 (and2 (and2 (and2 h).1).1).1).1).1).1).1).1).2,eq_of_beq (and2 (and2 (and2 (and2 (and2 (and2 (and2 (and2 h).1).1).1).1).1).1).1).2,(and2 (and2 (and2 (and2 (and2 (and2 (and2 h).1).1).1).1).1).1).2,eq_of_beq (and2 (and2 (and2 (and2 (and2 (and2 h).1).1).1).1).1).2,of_decide_eq_true (and2 (and2 (and2 (and2 (and2 h).1).1).1).1).2,of_decide_eq_true (and2 (and2 (and2 (and2 h).1).1).1).2,fun n hn=>Zwm (List.all_eq_true.mp (and2 (and2 (and2 h).1).1).2 n hn),of_decide_eq_true (and2 (and2 h).1).2,(and2 h).2⟩
theorem Zqt {F:Fn} {args:List AV} (h:args.length=F.npar) (h':F.npar≤F.slots.length):(Zgp F args).length=F.slots.length:=by
  unfold Zgp;rw [List.length_append,List.length_map,List.length_replicate,h];exact Nat.add_sub_cancel' h'
theorem Zki {F:Fn} {args:List AV} {vals:List Value} {ps:List Str} {i:Nat} {n:Str} (hl:args.length=F.npar) (hv:VRs args vals) (hp:ps=(F.slots.map Str.ofString).take F.npar) (hn:(F.slots.map Str.ofString)[i]? = some n) :
    ∃ v,(Zgp F args)[i]? = some v∧∀ (y:Option Value),(∀ w,(ps.zip vals)[i]? = some (n,w)→y=some w)→OVW v y:=by
  have hi:i < F.slots.length:=by have:=(List.getElem?_eq_some_iff.mp hn).1;rwa [List.length_map] at this
  unfold Zgp
  by_cases z:i < F.npar
  · have hia:i < args.length:=by rw [hl];exact z
    have hav:=List.getElem?_eq_getElem hia
    obtain ⟨w,hw,hvr⟩:=hv.get hav
    refine ⟨some args[i],by rw [List.getElem?_append_left (by rw [List.length_map];exact hia),List.getElem?_map,hav];rfl,fun y hy=>?_⟩
    rw [hy w (by rw [List.getElem?_zip_eq_some,hp,List.getElem?_take_of_lt z];exact ⟨hn,hw⟩)]
    exact .some hvr
  · refine ⟨none,?_,fun y _=>.none⟩
    rw [List.getElem?_append_right (by rw [List.length_map,hl];exact Nat.not_lt.mp z),List.getElem?_replicate,List.length_map,hl,if_pos (Nat.sub_lt_sub_right (Nat.not_lt.mp z) hi)]
noncomputable def Zib (L:Addr) (m cm:Str→Option Value) (cells:List (Str×Addr)) (R:RR):RR:=fun b=>if b=L then some (.ns m) else match cells.find? (fun p=>p.2 == b) with
  | some p=>some (.cell (cm p.1))
  | none=>R b
section
variable {L:Addr} {m cm:Str→Option Value} {cells:List (Str×Addr)} {R:RR}
theorem Zro:Zib L m cm cells R L=some (.ns m):=if_pos rfl
theorem Zop {n:Str} {a:Addr} (ab:∀ p∈cells,@LT.lt Nat _ L p.2) (ap:∀ n n' c,(n,c)∈cells→(n',c)∈cells→n=n') (h:cells.lookup n=some a):Zib L m cm cells R a=some (.cell (cm n)):=by
  have hmem:=mem_of_lookup h
  have hlt:=ab _ hmem
  unfold Zib
  rw [if_neg (fun z=>by rw [z] at hlt;exact Nat.lt_irrefl _ hlt)]
  cases hf:cells.find? (fun p=>p.2 == a) with
  | none=>exact absurd (beq_self_eq_true a) (List.find?_eq_none.mp hf _ hmem)
  | some p =>
    have h1:=List.mem_of_find?_eq_some hf
    have h2:p.2=a:=eq_of_beq (List.find?_some (p:=fun (p:Str×Addr)=>p.2 == a) hf)
    have h3:p.1=n:=ap p.1 n a (by rw [← h2];exact h1) hmem
    rw [← h3]
theorem Zt4 (b:Addr):Zib L m cm cells R b=R b∨b=L∨∃ p∈cells,p.2=b:=by
  unfold Zib
  by_cases z:b=L
  · exact .inr (.inl z)
  · rw [if_neg z]
    cases hf:cells.find? (fun p=>p.2 == b) with
    | none=>exact .inl rfl
    | some p=>exact .inr (.inr ⟨p,List.mem_of_find?_eq_some hf,eq_of_beq (List.find?_some (p:=fun (p:Str×Addr)=>p.2 == b) hf)⟩)
end
theorem Zoo {c:Cx} {mg mb:Str→Option Value} (C:c.Ok mg mb) (PO:PgOk c) {n:Nat} {md:Bool} {f:String} {F:Fn} (hok:fnOk c.K c.P (c.fa f) F=true) {args:List AV} {Q:AV→Zaa→Prop} {E:String→Zaa→Prop} {H:Zaa} (hlen:args.length=F.npar)
    (q:wpSs ⟨c,n,md⟩ F.body (fun _ H=>Q .none H) Q (fun cl _ H=>E cl H) (Zgp F args) H):CallOK c (n + 1) md f args Q E H:=by
  intro A stk R s vals Rs aok stkok S hv kQ kE
  obtain ⟨o,fd,body,ho,hd,hb,c1,c2,c3,c4,c5,c6,c7,c8,c9,c10,c11,c12,c13,c14,c15,c16,c17,c18⟩:=Zts hok
  have X:=C.kin.keeps S.stays
  have hvl:=hv.length
  have hpl:(fd.params.args.map (·.arg)).length=F.npar:=by rw [c13,List.length_take,List.length_map,Nat.min_eq_left c14]
  have hpn:(fd.params.args.map (·.arg)).Nodup:=by rw [c13];exact c15.sublist (List.take_sublist _ _)
  have hpv:fd.params.args.length=vals.length:=by rw [← hvl,hlen,← hpl,List.length_map]
  have hcs:∀ (k:Nat) n,((cellsFrom k fd.scope.names []).lookup n).isSome=((cellsFrom 0 fd.scope.names []).lookup n).isSome:=fun k n=>by
    rw [Zfo,Zfo,cellsFrom_names fd.scope.names 0 k [] [] rfl]
  have hnodup:∀ k:Nat,((cellsFrom k fd.scope.names []).map (·.1)).Nodup:=fun k=>by rw [← cellsFrom_names fd.scope.names 0 k [] [] rfl];exact c17
  refine codeAny_call_function (by have:=aok.depth;lia) (X _ _ ho) hd c9 c10 hb (codeRec_of X c12) (Zoq c5 c6 c7 c8 c4 hpn hpv _ _ _ _ ?_)
  rw [c3]
  refine wpAny_newFunctionEnv_cells c11 (fun x hx=>?_) fun env he s₁ x=>?_
  · have hm:x.1∈F.slots.map Str.ofString:=by
      have:=(List.of_mem_zip (show (x.1,x.2)∈_ from hx)).1
      rw [c13] at this
      exact List.mem_of_mem_take this
    exact (c16 x.1 hm).imp_right fun h=>⟨h.1,by rw [hcs];exact h.2⟩
  subst he
  refine ⟨(C.nolimit.keeps S.stays).keeps x.toInCall.keep,codeAny_func ?_⟩
  generalize henv:newEnv fd.scope s.heap.objs.size fd.globals (cellsFrom (s.heap.objs.size + 1) fd.scope.names []) (fd.qualname ++ ".<locals>.") (some (c.fa f)) fd.code none fd.builtins=env at x ⊢
  have el:env.locals=s.heap.objs.size:=by rw [← henv];rfl
  have es:env.scope=fd.scope:=by rw [← henv];rfl
  have ec:env.cells=cellsFrom (s.heap.objs.size + 1) fd.scope.names []:=by rw [← henv];rfl
  have eg:env.globals=mainGlobals:=by rw [← henv];exact c1
  have eb:env.builtins=builtinsNs:=by rw [← henv];exact c2
  have ef:env.frame=some env.locals:=by rw [← henv];rfl
  clear henv
  have ek:∀ n,env.kindOf n=fd.scope.names.lookup n:=fun n=>by unfold Env.kindOf;rw [es]
  generalize hm:bindL env.kindOf ((fd.params.args.map (·.arg)).zip vals) (fun _=>none)=m at x
  generalize hcm:bindC env.kindOf ((fd.params.args.map (·.arg)).zip vals) (fun _=>none)=cm at x
  have hsz:s.heap.objs.size≤s₁.heap.objs.size:=by
    obtain ⟨oL,_,_,w,_⟩:=x.toInCall.ns
    rw [← el];exact Nat.le_of_lt (lts w)
  have habove:∀ p∈env.cells,@LT.lt Nat _ env.locals p.2:=fun p hp=>x.above p.1 p.2 hp
  have hap:∀ n n' c,(n,c)∈env.cells→(n',c)∈env.cells→n=n':=fun n n' c h h'=>name_of_addr x.apart h h'
  have hL:Zib env.locals m cm env.cells R env.locals=some (.ns m):=Zro
  have hcell:∀ n a,env.cells.lookup n=some a→Zib env.locals m cm env.cells R a=some (.cell (cm n)):=fun n a h=>Zop habove hap h
  have hR:∀ b,Zib env.locals m cm env.cells R b=R b∨(s.heap.objs.size≤b∧∃ r,Zib env.locals m cm env.cells R b=some r∧ResAt s₁.heap b r):=fun b=>by
    rcases Zt4 (L:=env.locals) (m:=m) (cm:=cm) (cells:=env.cells) (R:=R) b with h | rfl | ⟨p,h1,rfl⟩
    · exact .inl h
    · exact .inr ⟨by rw [el];exact Nat.le_refl _,_,hL,x.toInCall.ns⟩
    · have hl:env.cells.lookup p.1=some p.2:=lookup_of_mem_nodup (by rw [ec];exact hnodup _) h1
      exact .inr ⟨by rw [← el];exact Nat.le_of_lt (habove p h1),_,hcell _ _ hl,x.cell _ _ hl⟩
  generalize Zib env.locals m cm env.cells R=R' at hL hcell hR
  have hlt:∀ b r,R b=some r→@LT.lt Nat _ b s.heap.objs.size:=fun b r e=>let ⟨ob,w⟩:=(S.res b r e).2.there;lts w
  have hold:∀ b r,R b=some r→R' b=some r:=fun b r e=>by
    rcases hR b with h | ⟨h,_⟩
    · rw [h];exact e
    · exact absurd (hlt b r e) (Nat.not_lt.mpr h)
  have hzn:(((fd.params.args.map (·.arg)).zip vals).map (·.1)).Nodup:=by rw [List.map_fst_zip (by rw [List.length_map];exact Nat.le_of_eq hpv)];exact hpn
  have fr:Frm R' env fd.scope (F.slots.map Str.ofString) (Zgp F args):=by
    refine ⟨by rw [es];exact c11,eg,eb,fun id h=>?_,fun id h=>?_,fun id h=>?_,fun id h=>by rw [ek];exact h,fun id h=>by rw [ek];exact h,by rw [Zqt hlen c14,List.length_map],fun n n' a h h'=>hap n n' a (mem_of_lookup h) (mem_of_lookup h'),⟨m,hL,fun i n hn hk=>?_⟩,fun i n hn hk=>?_⟩
    · rw [ek];exact eq_of_beq h
    · rw [ek];exact Zkh h
    · rw [ek];exact Ziq h
    · obtain ⟨v,h1,h2⟩:=Zki hlen hv c13 hn
      exact ⟨v,h1,h2 _ fun w hw=>by rw [← hm];exact Zk2 hzn hw hk⟩
    · obtain ⟨v,h1,h2⟩:=Zki hlen hv c13 hn
      rcases c16 n (List.mem_of_getElem? hn) with z | ⟨z1,z2⟩
      · rw [ek,z] at hk;rcases hk with hk | hk <;> cases hk
      · obtain ⟨a,ha⟩:=Option.isSome_iff_exists.mp (show (env.cells.lookup n).isSome=true by rw [ec,hcs];exact z2)
        exact ⟨a,_,v,ha,hcell n a ha,h1,h2 _ fun w hw=>by rw [← hcm];exact Zk4 hzn hw (by rw [ek];exact z1)⟩
  have ev:Ev ⟨c,n,md⟩ (A.deeper env) R' env stk:=by
    refine ⟨⟨?_,?_,?_,aok.hand⟩,fun e he=>?_⟩
    · show A.frames.map (env :: ·)=_;rw [aok.frames];rfl
    · have:=aok.depth;show A.depth + 1 + 110 + 4 + 8 * n < _;lia
    · have:=aok.units;show A.units + 3 + 100 + 10 * 4 + 60 * n < _;lia
    · rcases List.mem_cons.mp he with rfl | he
      · exact ⟨by rw [es];exact c11,ef,by rw [es];exact c10,by rw [es];exact c9,eb,eg,m,hL⟩
      · have G:=stkok e he
        obtain ⟨mm,hmm⟩:=G.ns
        exact ⟨G.kind,G.frame,G.gen,G.co,G.blt,G.glob,mm,hold _ _ hmm⟩
  have back:∀ {R2:RR},RStep env R' R2→∀ b r,R b=some r→R2 b=some r:=fun {R2} r b y e=>by
    have hlt:=hlt b y e
    rcases r b with h | ⟨h,_⟩ | ⟨⟨nn,h⟩,_⟩
    · rw [h];exact hold b y e
    · rw [h,el] at hlt;exact absurd hlt (Nat.lt_irrefl _)
    · have:=habove _ (mem_of_lookup h);rw [el] at this;exact absurd (Nat.lt_trans hlt this) (Nat.lt_irrefl _)
  refine wpAny_mono (sSs (g:=⟨c,n,md⟩) C PO c15 F.body body c18 md (A.deeper env) env stk R' (Zgp F args) s s₁ H _ Q _ ev fr (S.news x.toInCall.keep hsz hR) x.toInCall.same q) (fun fl s₂ z=>?_) fun e s₂ z=>?_
  · cases fl with
    | next =>
      obtain ⟨R2,V2,H₂,r₂,_,S2,m₂,q₂⟩:=z
      exact kQ .none .none s₂ H₂ .none (S2.weaken (back r₂)) m₂ q₂
    | ret v =>
      obtain ⟨R2,av,H₂,r₂,hv2,S2,m₂,q₂⟩:=z
      exact kQ av v s₂ H₂ hv2 (S2.weaken (back r₂)) m₂ q₂
    | brk=>exact z.elim
    | cont=>exact z.elim
  · obtain ⟨a,cl,R2,V2,H₂,fl,rfl,r₂,f₂,hfl,X2,m₂,q₂⟩:=z
    refine Zq9 ev.aok.frames (r₂.stk ev.stk) X2 hfl fun h' X3=>?_
    exact kE a cl _ H₂ (X3.weaken (back r₂)) (m₂.heap h') q₂
end Mine
end
section
open PySem PySem.W PyProof.Rows PySem.Spec PySem.SeqAt PySem.Calls
namespace Mine
noncomputable def Zrv (v:Option (Option Value)):Addr:=match v with
  | some (some (.ref a))=>a
  | _=>0
noncomputable def caOf (K:Frag) (cl:String):Addr:=Zrv (nsIn K mainGlobals (Str.ofString cl))
noncomputable def faOf (K:Frag) (P:Pg) (f:String):Addr:=match P.meths.find? (fun p=>p.1 ++ "." ++ p.2 == f) with
  | some (cl,m)=>Zrv (findIn K (.ref (caOf K cl)) (Str.ofString m))
  | none=>Zrv (nsIn K mainGlobals (Str.ofString f))
noncomputable def vrB (a:AV) (v:Value):Bool:=match a with
  | .none=>v == .none
  | .bool a=>v == .bool a
  | .int a=>if h:v.ctorIdx=4 then Value.int.elim (motive:=fun _=>Bool) v h fun b _=>b == a else false
  | .str a=>if h:v.ctorIdx=6 then Value.str.elim (motive:=fun _=>Bool) v h fun b _=>b == a && PyData.strOk b else false
  | .ref _=>false
theorem Zz6 {a:AV} {v:Value} (h:vrB a v=true):VR a v:=by
  cases a with
  | none=>rw [eq_of_beq h];exact .none
  | bool b=>rw [eq_of_beq h];exact .bool b
  | int i=>exact (dn h).elim fun q z=>Value.int.elim (motive:=fun v=>∀ q,Value.int.elim (motive:=fun _=>Bool) v q (fun b _=>b == i)=true→VR (.int i) v) v q (fun b t _ z=>eq_of_beq z ▸ .int b t) q z
  | str x=>exact (dn h).elim fun q z=>Value.str.elim (motive:=fun v=>∀ q,Value.str.elim (motive:=fun _=>Bool) v q (fun b _=>b == x && PyData.strOk b)=true→VR (.str x) v) v q (fun b t _ z=>eq_of_beq (and2 z).1 ▸ .str b t (and2 z).2) q z
  | ref p=>exact Bool.noConfusion h
noncomputable def okFn (K:Frag) (P:Pg):Bool:=P.gfns.all fun f=>nsIn K mainGlobals (Str.ofString f) == some (some (.ref (faOf K P f))) && keepIn K (.ref (faOf K P f))
noncomputable def Z0t (K:Frag) (P:Pg):Bool:=P.classes.all fun cl=>nsIn K mainGlobals (Str.ofString cl) == some (some (.ref (caOf K cl))) && keepIn K (.ref (caOf K cl)) && makesIn K (caOf K cl) &&
  findIn K (.ref (caOf K cl)) "__init__" == some (some (.ref (faOf K P (cl ++ ".__init__")))) && isFn K (.ref (faOf K P (cl ++ ".__init__")))
noncomputable def Zyp (K:Frag) (P:Pg):Bool:=P.meths.all fun p=>plainGet K (caOf K p.1) (Str.ofString p.2) && findIn K (.ref (caOf K p.1)) (Str.ofString p.2) == some (some (.ref (faOf K P (p.1 ++ "." ++ p.2)))) &&
  isFn K (.ref (faOf K P (p.1 ++ "." ++ p.2))) && keepIn K (.ref (faOf K P (p.1 ++ "." ++ p.2)))
noncomputable def Zyq (K:Frag) (P:Pg):Bool:=P.attrs.all fun p=>plainGet K (caOf K p.1) (Str.ofString p.2) && hasDictIn K (caOf K p.1) && findIn K (.ref (caOf K p.1)) (Str.ofString p.2) == some none &&
  findIn K (.ref (caOf K p.1)) "__setattr__" == some (some (.builtin "object.__setattr__")) && plainOver K (caOf K p.1) && takerIn K (caOf K p.1) (Str.ofString p.2) == some none
noncomputable def Zyo (K:Frag) (P:Pg):Bool:=P.prims.all fun f=>nsIn K mainGlobals (Str.ofString f) == some none && !(Str.ofString f == Str.ofString "__name__") && bootBuiltins (Str.ofString f) == some (Zgv f)
noncomputable def Z0s (K:Frag) (P:Pg):Bool:=P.excs.all fun p=>nsIn K mainGlobals (Str.ofString p.1) == some (some (.ref (caOf K p.1))) && excIn K (caOf K p.1) veM "ValueError.__new__" && instIn K (.ref (caOf K p.1)) (.type "tuple") == some false && subIn K (.ref (caOf K p.1)) (.type "BaseException") == some true &&
  (clsIn K (caOf K p.1)).isSome && typeIn K (.ref (caOf K p.1)) == some (.type "type") && instIn K (.ref (caOf K p.1)) (.type "type") == some true && !typeNames.contains p.1 && (P.excs.all fun q=>subIn K (.ref (caOf K p.1)) (.ref (caOf K q.1)) == some (Ziv P p.1 q.1))
noncomputable def Zwc (K:Frag) (P:Pg):Bool:=P.consts.all fun p=>match nsIn K mainGlobals (Str.ofString p.1) with
  | some (some x)=>vrB p.2 x
  | _=>false
noncomputable def Z0r (K:Frag) (P:Pg):Bool:=P.fns.all fun p=>fnOk K P (faOf K P p.1) p.2
noncomputable def Zn4 (K:Frag) (P:Pg):Bool:=okFn K P && Z0t K P && Zyp K P && Zyq K P && Zyo K P && Z0s K P && Zwc K P && Z0r K P
theorem Zbm {α:Type}:∀ {l:List (String×α)} {n:String} {c:α},l.lookup n=some c→(n,c)∈l
  | (k,v) :: r,n,c,h=>by
    rw [List.lookup_cons] at h
    cases hb:n == k with
    | true=>rw [hb] at h;cases h;rw [beq_iff_eq.mp hb];exact List.mem_cons_self
    | false=>rw [hb] at h;exact List.mem_cons_of_mem _ (Zbm h)
noncomputable def cxOf (prog:Program) (w:World) (K:Frag) (base:Heap) (P:Pg):Cx:=⟨prog,w,K,base,P,faOf K P,caOf K⟩
theorem Zbk {α:Type} {l:List α} {p:α→Bool} (h:l.all p=true) {a:α} (m:a∈l):p a=true:=List.all_eq_true.mp h a m
theorem Zbw {α:Type} [BEq α] [LawfulBEq α] {l:List α} {a:α} (h:l.contains a=true):a∈l:=List.contains_iff_mem.mp h
set_option tactic.hygienic true in
theorem Zv6 {prog:Program} {w:World} {K:Frag} {base:Heap} {P:Pg} (h:Zn4 K P=true):PgOk (cxOf prog w K base P)∧∀ f F,P.fns.lookup f=some F→fnOk K P (faOf K P f) F=true:=by
  refine ⟨⟨fun f hf=>?_,fun cl hf=>?_,fun cl m hf=>?_,fun cl n hf=>?_,fun f hf=>?_,fun cl hf=>?_,fun cl d hc hd=>?_,fun n v hf=>?_⟩,fun f F hf=>Zbk (and2 h).2 (Zbm hf)⟩
  · exact ⟨eq_of_beq (and2 (Zbk (and2 (and2 (and2 (and2 (and2 (and2 (and2 h).1).1).1).1).1).1).1 (Zbw hf))).1,(and2 (Zbk (and2 (and2 (and2 (and2 (and2 (and2 (and2 h).1).1).1).1).1).1).1 (Zbw hf))).2⟩
  · exact ⟨eq_of_beq (and2 (and2 (and2 (and2 (Zbk (and2 (and2 (and2 (and2 (and2 (and2 (and2 h).1).1).1).1).1).1).2 (Zbw hf))).1).1).1).1,(and2 (and2 (and2 (and2 (Zbk (and2 (and2 (and2 (and2 (and2 (and2 (and2 h).1).1).1).1).1).1).2 (Zbw hf))).1).1).1).2,(and2 (and2 (and2 (Zbk (and2 (and2 (and2 (and2 (and2 (and2 (and2 h).1).1).1).1).1).1).2 (Zbw hf))).1).1).2,eq_of_beq (and2 (and2 (Zbk (and2 (and2 (and2 (and2 (and2 (and2 (and2 h).1).1).1).1).1).1).2 (Zbw hf))).1).2,(and2 (Zbk (and2 (and2 (and2 (and2 (and2 (and2 (and2 h).1).1).1).1).1).1).2 (Zbw hf))).2⟩
  · exact ⟨(and2 (and2 (and2 (Zbk (and2 (and2 (and2 (and2 (and2 (and2 h).1).1).1).1).1).2 (Zbw hf))).1).1).1,eq_of_beq (and2 (and2 (and2 (Zbk (and2 (and2 (and2 (and2 (and2 (and2 h).1).1).1).1).1).2 (Zbw hf))).1).1).2,(and2 (and2 (Zbk (and2 (and2 (and2 (and2 (and2 (and2 h).1).1).1).1).1).2 (Zbw hf))).1).2,(and2 (Zbk (and2 (and2 (and2 (and2 (and2 (and2 h).1).1).1).1).1).2 (Zbw hf))).2⟩
  · exact ⟨(and2 (and2 (and2 (and2 (and2 (Zbk (and2 (and2 (and2 (and2 (and2 h).1).1).1).1).2 (Zbw hf))).1).1).1).1).1,(and2 (and2 (and2 (and2 (and2 (Zbk (and2 (and2 (and2 (and2 (and2 h).1).1).1).1).2 (Zbw hf))).1).1).1).1).2,eq_of_beq (and2 (and2 (and2 (and2 (Zbk (and2 (and2 (and2 (and2 (and2 h).1).1).1).1).2 (Zbw hf))).1).1).1).2,eq_of_beq (and2 (and2 (and2 (Zbk (and2 (and2 (and2 (and2 (and2 h).1).1).1).1).2 (Zbw hf))).1).1).2,(and2 (and2 (Zbk (and2 (and2 (and2 (and2 (and2 h).1).1).1).1).2 (Zbw hf))).1).2,eq_of_beq (and2 (Zbk (and2 (and2 (and2 (and2 (and2 h).1).1).1).1).2 (Zbw hf))).2⟩
  · exact ⟨eq_of_beq (and2 (and2 (Zbk (and2 (and2 (and2 (and2 h).1).1).1).2 (Zbw hf))).1).1,not1 (and2 (and2 (Zbk (and2 (and2 (and2 (and2 h).1).1).1).2 (Zbw hf))).1).2,eq_of_beq (and2 (Zbk (and2 (and2 (and2 (and2 h).1).1).1).2 (Zbw hf))).2⟩
  · obtain ⟨l,hl⟩:=Option.isSome_iff_exists.mp hf
    exact ⟨eq_of_beq (and2 (and2 (and2 (and2 (and2 (and2 (and2 (and2 (Zbk (and2 (and2 (and2 h).1).1).2 (Zbm hl))).1).1).1).1).1).1).1).1,(and2 (and2 (and2 (and2 (and2 (and2 (and2 (and2 (Zbk (and2 (and2 (and2 h).1).1).2 (Zbm hl))).1).1).1).1).1).1).1).2,eq_of_beq (and2 (and2 (and2 (and2 (and2 (and2 (and2 (Zbk (and2 (and2 (and2 h).1).1).2 (Zbm hl))).1).1).1).1).1).1).2,eq_of_beq (and2 (and2 (and2 (and2 (and2 (and2 (Zbk (and2 (and2 (and2 h).1).1).2 (Zbm hl))).1).1).1).1).1).2,(and2 (and2 (and2 (and2 (and2 (Zbk (and2 (and2 (and2 h).1).1).2 (Zbm hl))).1).1).1).1).2,eq_of_beq (and2 (and2 (and2 (and2 (Zbk (and2 (and2 (and2 h).1).1).2 (Zbm hl))).1).1).1).2,eq_of_beq (and2 (and2 (and2 (Zbk (and2 (and2 (and2 h).1).1).2 (Zbm hl))).1).1).2,not1 (and2 (and2 (Zbk (and2 (and2 (and2 h).1).1).2 (Zbm hl))).1).2⟩
  · obtain ⟨l,hl⟩:=Option.isSome_iff_exists.mp hc
    obtain ⟨l',hl'⟩:=Option.isSome_iff_exists.mp hd
    exact eq_of_beq (Zbk (and2 (Zbk (and2 (and2 (and2 h).1).1).2 (Zbm hl))).2 (Zbm hl'))
  · have q:=Zbk (and2 (and2 h).1).2 (Zbm hf)
    dsimp only at q
    split at q
    · rename_i x hx;exact ⟨x,hx,Zz6 q⟩
    · cases q
noncomputable def Zez (p:Addr) (ns:List Int):Zaa:=fun a=>if a=p then some (.script ns) else none
theorem Zwp {vs:List Value} {ns:List Int} (h:IntsAre vs ns):VRs (ns.map AV.int) vs:=by
  induction h with
  | nil=>exact .nil
  | cons n t _ ih=>exact .cons (.int n t) ih
set_option tactic.hygienic true in
theorem enter {prog:Program} {w:World} {K:Frag} {P:Pg} {mg mb:Str→Option Value} {p:Program} {loose:List Str} {mean:ExcName→Option Value} {s₁:Shared} {fa sp:Addr} {vs:List Value} {ns:List Int} {n:Nat} {E:Value→Shared→Prop} {Q:Value→Shared→Prop} {nl:Str}
    (hn:n≤50) (KX:K.In s₁.heap) (T:Top p loose mean mg mb s₁.heap) (hseer:s₁.heap.NoSeer) (htree:prog.given.tree=none) (hnl:nl=Str.ofString "law") (hmg:mg nl=some (.ref fa)) (hok:Zn4 K P=true) (hlaw:P.gfns.contains "law" = true)
    (hget:s₁.heap.get? sp=some { cls:=.type "list",data:=.seq vs.toArray }) (hI:IntsAre vs ns)
    (hcall:∀ c:Cx,c.P=P→c.Ok mg mb→PgOk c→(∀ f F,P.fns.lookup f=some F→fnOk c.K P (c.fa f) F=true)→CallOK c n true "law" [.ref sp] (fun v _=>v = .bool true) (fun _ _=>False) (Zez sp ns))
    (hq:∀ s',s₁.heap.StaysIn s'.heap→s'.os=s₁.os→s'.gens=s₁.gens→Q (.bool true) s'):wpAny (model prog w) callerA (call (.ref fa) [.ref sp]) Q E s₁:=by
  obtain ⟨PO,FO⟩:=Zv6 (prog:=prog) (w:=w) (base:=s₁.heap) hok
  have C:(cxOf prog w K s₁.heap P).Ok mg mb:=⟨KX,T.g,T.b,T.nolimit,T.builtins,hseer,htree,p,loose,topRead_of T⟩
  have hfa:fa=(cxOf prog w K s₁.heap P).fa "law":=by
    have h1:=(PO.fn "law" hlaw).1
    have h2:=mg_of KX T.g h1
    rw [← hnl,hmg] at h2
    exact Value.ref.inj (Option.some.inj h2)
  have S:St (cxOf prog w K s₁.heap P) (fun _=>none) (Zez sp ns) s₁.heap:=by
    have hs:∀ a o,Zez sp ns a=some o→a=sp∧o = .script ns:=fun a o e=>by
      unfold Zez at e
      split at e
      · rename_i z;cases e;exact ⟨z,rfl⟩
      · cases e
    refine ⟨_,(?_:St1 _ _ (Zez sp ns) _),Real.raw fun a o e=>by rw [(hs a o e).2];rfl⟩
    refine ⟨fun _ _ e=>e,Nat.le_refl _,fun _ _ e=>(by cases e),fun _=>0,⟨fun a o e=>?_,fun a o e=>?_,fun a cl es e=>?_,fun a b cl es cl' es' e=>?_⟩⟩
    · obtain ⟨rfl,rfl⟩:=hs a o e
      exact ⟨vs,0,hget,Zwp hI⟩
    · obtain ⟨rfl,rfl⟩:=hs a o e
      exact ⟨⟨fun w=>(by cases w),fun w=>(by cases w)⟩,rfl⟩
    · cases (hs a _ e).2
    · cases (hs a _ e).2
  rw [hfa]
  refine wpAny_call (hcall _ rfl C PO FO callerA [] (fun _=>none) s₁ [.ref sp] _ ⟨rfl,?_,?_,fun _=>rfl⟩ (fun e he=>by cases he) S (.cons (.ref sp) .nil) ?_ ?_)
  · show 1 + 300 + 110 + 0 + 8 * n < 1000;omega
  · show 4 + 100 + 10 * 0 + 60 * n < 9900;omega
  · rintro av v s' H' hv S' m rfl
    cases hv
    obtain ⟨h,tk,rfl⟩:=m
    exact hq _ S'.stays rfl rfl
  · rintro e cl s' H' _ _ h;exact h.elim
end Mine
end
section
open PySem PySem.W PyProof.Rows PySem.Spec PySem.SeqAt PySem.Calls
namespace Mine
structure Gd (c:Cx) (P:Pg):Prop where
  hP:c.P=P
  ok:∃ mg mb,c.Ok mg mb
  pg:PgOk c
  fn:∀ f F,P.fns.lookup f=some F→fnOk c.K P (c.fa f) F=true
theorem Gd.call {c:Cx} {P:Pg} (G:Gd c P) {n:Nat} {md:Bool} {f:String} {F:Fn} (hf:P.fns.lookup f=some F) {args:List AV} {Q:AV→Zaa→Prop} {E:String→Zaa→Prop} {H:Zaa} (hlen:args.length=F.npar)
    (q:wpSs ⟨c,n,md⟩ F.body (fun _ H=>Q .none H) Q (fun cl _ H=>E cl H) (Zgp F args) H):CallOK c (n + 1) md f args Q E H:=by
  obtain ⟨mg,mb,C⟩:=G.ok
  have:=G.fn f F hf
  rw [← G.hP] at this
  exact Zoo C G.pg this hlen q
section
variable {Q:AV→Zaa→Prop} {H:Zaa} {x y:Int} {a b:Str}
theorem Zb5:wbin .Add (.int x) (.int y) Q H=Q (.int (x + y)) H:=rfl
theorem Zda:wbin .Sub (.int x) (.int y) Q H=Q (.int (x - y)) H:=rfl
theorem Zd6:wbin .Mult (.int x) (.int y) Q H=(IntMulOk x y∧Q (.int (x * y)) H):=rfl
theorem Zb1:wbin .FloorDiv (.int x) (.int y) Q H=(y≠0∧Q (.int (x.fdiv y)) H):=rfl
theorem Zby:wbin .Mod (.int x) (.int y) Q H=(y≠0∧Q (.int (x.fmod y)) H):=rfl
theorem Zej:wbin .Pow (.int x) (.int y) Q H=((2≤x∧1≤y∧Builtin.Int.intTooBig (((Builtin.Int.intBits x:Nat):Int) * y)=false)∧Q (.int (x ^ y.toNat)) H):=rfl
theorem Zcr:wbin .Add (.str a) (.str b) Q H=(a.length + b.length≤sizeLine∧Q (.str (a ++ b)) H):=rfl
theorem c_lt:wcmp .Lt (.int x) (.int y) Q H=Q (.bool (decide (x < y))) H:=rfl
theorem c_le:wcmp .LtE (.int x) (.int y) Q H=Q (.bool (decide (x≤y))) H:=rfl
theorem c_gt:wcmp .Gt (.int x) (.int y) Q H=Q (.bool (decide (y < x))) H:=rfl
theorem c_ge:wcmp .GtE (.int x) (.int y) Q H=Q (.bool (decide (y≤x))) H:=rfl
theorem c_eq:wcmp .Eq (.int x) (.int y) Q H=Q (.bool (x == y)) H:=rfl
theorem c_ne:wcmp .NotEq (.int x) (.int y) Q H=Q (.bool (x != y)) H:=rfl
theorem Zcf:wcmp .Eq (.str a) (.str b) Q H=Q (.bool (a == b)) H:=rfl
theorem Zdn:wcmp .NotEq (.str a) (.str b) Q H=Q (.bool (a != b)) H:=rfl
theorem c_in {u v:AV}:wcmp .In u v Q H=win false u v Q H:=rfl
theorem Zdm {u v:AV}:wcmp .NotIn u v Q H=win true u v Q H:=rfl
theorem Zai {H:Zaa} {P:Bool→Prop} {t:Bool}:Zbp (.bool t) H P=P t:=rfl
theorem Zeb {H:Zaa} {P:Bool→Prop} {i:Int}:Zbp (.int i) H P=P (i != 0):=rfl
theorem Zc0 {H:Zaa} {P:Bool→Prop}:Zbp .none H P=P false:=rfl
end
theorem script_get {P:Params} {h:Heap} {sp:Addr} {xs:List PyData} {vs:List Value} (W:Well P h (.ref sp) (ofPy (.list xs))) (L:h.IsList sp vs.toArray):h.get? sp=some { cls:=.type "list",data:=.seq vs.toArray }:=by
  obtain ⟨o,ho,hc,n,hd⟩:=L
  rw [ofPy] at W
  cases W with
  | list h1 _=>rw [ho] at h1;cases h1;cases hd;exact ho
theorem scriptH_at {sp:Addr} {ns:List Int}:Zez sp ns sp=some (.script ns):=by unfold Zez;rw [if_pos rfl]
end Mine
end
section
open PySem PySem.W PyProof.Rows
namespace Mine
noncomputable def Zxd (x:Obj):BT→BT
  | .nil=>.node x .nil .nil
  | .node y l r=>.node x (Zxd y r) l
noncomputable def ofL:List Obj→BT
  | []=>.nil
  | x :: xs=>Zxd x (ofL xs)
theorem get_odd {v:Obj} {l r:BT} {k:Nat}:(BT.node v l r).get (2 * k + 1)=l.get k:=by
  rw [BT.get_node,if_neg (Nat.succ_ne_zero _),if_pos (by omega),show (2 * k + 1) / 2=k by omega]
theorem get_even {v:Obj} {l r:BT} {k:Nat}:(BT.node v l r).get (2 * k + 2)=r.get k:=by
  rw [BT.get_node,if_neg (Nat.succ_ne_zero _),if_neg (by omega),show (2 * k + 2) / 2 - 1=k by omega]
theorem Zq0:∀ i:Nat,i=0∨∃ k,i=2 * k + 1∨i=2 * k + 2
  | 0=>.inl rfl
  | 1=>.inr ⟨0,.inl rfl⟩
  | i + 2=>.inr (match Zq0 i with
    | .inl h=>⟨0,.inr (congrArg (· + 2) h)⟩
    | .inr ⟨k,.inl h⟩=>⟨k + 1,.inl (congrArg (· + 2) h)⟩
    | .inr ⟨k,.inr h⟩=>⟨k + 1,.inr (congrArg (· + 2) h)⟩)
theorem Zkn:∀ (t:BT) (x:Obj) (i:Nat),(Zxd x t).get i=if i=0 then some x else t.get (i - 1)
  | .nil,x,i=>by
    rcases Zq0 i with rfl | ⟨k,rfl | rfl⟩
    · rfl
    · exact get_odd
    · exact get_even
  | .node y l r,x,i=>by
    rcases Zq0 i with rfl | ⟨k,rfl | rfl⟩
    · rfl
    · refine get_odd.trans ?_
      rw [Zkn r y,if_neg (Nat.succ_ne_zero _)]
      cases k with
      | zero=>rfl
      | succ j=>exact get_even.symm
    · exact get_even.trans (get_odd (v:=y) (r:=r)).symm
theorem Zq2:∀ (l:List Obj) (i:Nat),(ofL l).get i=l[i]?
  | [],i=>by simp [ofL,BT.get]
  | x :: xs,i=>by
    unfold ofL
    rw [Zkn,Zq2 xs]
    cases i with
    | zero=>simp
    | succ n=>simp
theorem Zxh (h:Heap):absHeap (ofL h.objs.toList) h.objs.size h.life=h:=by
  obtain ⟨⟨l⟩,life⟩:=h
  unfold absHeap BT.list
  have:(List.range l.length).map (fun i=>((ofL l).get i).getD default)=l:=by
    apply List.ext_getElem?
    intro i
    rw [List.getElem?_map]
    by_cases h:i < l.length
    · rw [List.getElem?_range h,Option.map_some,Zq2]
      simp [h]
    · rw [List.getElem?_eq_none (by simpa using h),List.getElem?_eq_none (by omega)];rfl
  exact congrArg (fun x:List Obj=>Heap.mk x.toArray life) this
noncomputable def Zg7 (tb:String→Option Builtin) (p:Program) (w:World) (n₀:Nat) (ann:Option Value):Nat→SharedT→Thread→Option SharedT
  | 0,_,_=>none
  | n + 1,s,t=>match through t with
    | true=>some s
    | false=>match stepOk n₀ ann t with
      | false=>none
      | true=>match stepT (denote tb) p w s t with
        | some (s',t')=>Zg7 tb p w n₀ ann n s' t'
        | none=>none
theorem Zjt {tb:String→Option Builtin} {p:Program} {w:World} {n₀:Nat} {ann:Option Value}:∀ {n:Nat} {s s':SharedT} {t:Thread},Zg7 tb p w n₀ ann n s t=some s'→topRun tb p w n₀ ann n s.abs t=some s'.abs
  | 0,_,_,_,h=>by cases h
  | n + 1,s,s',t,h=>by
    unfold Zg7 at h
    unfold topRun
    cases he:through t with
    | true=>rw [he] at h;cases h;rfl
    | false =>
      rw [he] at h
      cases hk:stepOk n₀ ann t with
      | false=>rw [hk] at h;cases h
      | true =>
        rw [hk] at h
        cases hs:stepT (denote tb) p w s t with
        | none=>rw [hs] at h;cases h
        | some r=>obtain ⟨s₂,t₂⟩:=r;rw [hs] at h;rw [stepT_spec hs];exact Zjt h
noncomputable def Zi5 (p:Program) (w:World) (n₀:Nat) (ann:Option Value):Nat→SharedT→Thread→Option SharedT
  | 0,_,_=>none
  | n + 1,s,t=>match through t with
    | true=>some s
    | false=>match Fast.tw6613529449190102663 n₀ ann t with
      | false=>none
      | true=>match Fast.tw10156331382660048174 (Fast.tw11892475500146522536 Fast.tw14364793385576792824) p w s t with
        | some (s',t')=>Zi5 p w n₀ ann n s' t'
        | none=>none
theorem Zic {p:Program} {w:World} {n₀:Nat} {ann:Option Value}:∀ (n:Nat) (s:SharedT) (t:Thread),Zi5 p w n₀ ann n s t=Zg7 treeTable p w n₀ ann n s t
  | 0,_,_=>rfl
  | n + 1,s,t=>by
    rw [Zi5,Zg7,← Fast.te6613529449190102663,← Fast.te10156331382660048174,← Fast.te11892475500146522536,← Fast.te14364793385576792824]
    cases through t with
    | true=>rfl
    | false =>
      cases stepOk n₀ ann t with
      | false=>rfl
      | true =>
        cases stepT (denote treeTable) p w s t with
        | none=>rfl
        | some r=>exact Zic n r.1 r.2
noncomputable def Zxc (w:World) (os:OsState):SharedT:=⟨ofL (boot_heap w.params).objs.toList,(boot_heap w.params).objs.size,(boot_heap w.params).life,Array.mk [],boot_drawn,boot_toks,os⟩
theorem Zwl {p q:Program} {loose:List Str} {Xt:Shared→Bool} {α:Type} {Yf:Shared→α} {YT:SharedT→α} {Ya:World→α} {N:Nat} {g0:Bool} {ann:Option Value} {m₀:Nat} (hY:∀ s,Yf s.abs=YT s)
    (e:opening p=plainProg p.main.scope.names) (hN:Nat.ble 600 N=true) (f:∀ s,fenceModules? p s=some s)
    (size:∀ w:World,((boot_heap w.params).isNs mainGlobals,(boot_heap w.params).objs.size,(boot_heap w.params).nsMap mainGlobals "__annotations__")=(true,m₀,ann))
    (run:∀ (w:World) (os:OsState),(Zi5 p w m₀ ann N (Zxc w os) (topStub p)).map (fun s =>
      (staticsOk (importedModules p.main.body) (boot_heap w.params) s.abs.heap && namesBound p s.abs.heap && gensDone s.abs && laidKept (boot_heap w.params) s.abs.heap,Fast.tw4187177175401517315 q loose (importedModules p.main.body) Xt g0 s.abs,YT s))=some (true,openGood q loose,Ya w)) :
    LeftO p q loose Xt Yf Ya N g0:=fun w=>by
  obtain ⟨⟨h,gs,d,k,os⟩,e1,e2⟩:=Option.map_eq_some_iff.mp (boot_open e hN f w)
  obtain ⟨rfl,rfl,rfl,rfl⟩:h=boot_heap w.params∧gs=Array.mk []∧d=boot_drawn∧k=boot_toks:=by simpa using e2
  obtain ⟨z1,z2,z3⟩:_∧_∧_:=by simpa only [Prod.mk.injEq] using size w
  obtain ⟨s₁,r1,r2⟩:=Option.map_eq_some_iff.mp (run w os)
  obtain ⟨l1,l2,l3⟩:_∧_∧_:=by simpa only [Prod.mk.injEq] using r2
  rw [Zic] at r1
  rw [← Fast.te4187177175401517315] at l2
  have r3:=Zjt r1
  have ab:(Zxc w os).abs=⟨boot_heap w.params,Array.mk [],boot_drawn,boot_toks,os⟩:=by
    unfold Zxc SharedT.abs
    rw [Zxh]
  rw [ab] at r3
  have t:topFrom treeTable p w N ⟨boot_heap w.params,Array.mk [],boot_drawn,boot_toks,os⟩ = some s₁.abs:=by
    unfold topFrom
    dsimp only
    rw [z1,z2,z3,r3]
    show (match staticsOk (importedModules p.main.body) (boot_heap w.params) s₁.abs.heap && namesBound p s₁.abs.heap && gensDone s₁.abs && laidKept (boot_heap w.params) s₁.abs.heap with | true=>_ | false=>_)=_
    rw [l1]
  unfold openEnds
  rw [e1]
  show (topFrom treeTable p w N _).map _=_
  rw [t]
  exact congrArg some (Prod.ext l2 ((hY s₁).trans l3))
end Mine
end
section
open PySem PySem.W PyProof.Rows PySem.Spec PySem.SeqAt PySem.Calls
namespace Mine
noncomputable def Zkq (h:Heap) (as:List Addr):Frag:=as.filterMap fun a=>(h.get? a).map fun o=>(a,o)
theorem Zq5 {h:Heap} {as:List Addr}:(Zkq h as).In h:=by
  intro a o e
  induction as with
  | nil=>cases e
  | cons b r ih =>
    unfold Zkq at e ih
    rw [List.filterMap_cons] at e
    cases hb:h.get? b with
    | none=>rw [hb] at e;exact ih e
    | some ob =>
      rw [hb] at e
      simp only [Option.map_some] at e
      rw [List.lookup_cons] at e
      cases hab:a == b with
      | true=>rw [hab] at e;cases e;rw [beq_iff_eq.mp hab];exact hb
      | false=>rw [hab] at e;exact ih e
theorem Zt8 {t:BT} {n:Nat} {life:Life} {a:Nat}:(absHeap t n life).get? a=if a < n then alive ((t.get a).getD default) else none:=by
  unfold Heap.get?
  rw [absHeap_at]
  by_cases h:a < n
  · rw [if_pos h,if_pos h]
    generalize (t.get a).getD default=o
    obtain ⟨c,d,dt,sl⟩:=o
    cases dt <;> rfl
  · rw [if_neg h,if_neg h]
noncomputable def Zoi (t:BT) (n:Nat):List Addr→Frag
  | []=>[]
  | a :: r=>match Nat.blt a n with
    | true=>(match alive ((t.get a).getD default) with
      | some o=>(a,o) :: Zoi t n r
      | none=>Zoi t n r)
    | false=>Zoi t n r
theorem Zm9 {t:BT} {n:Nat} {life:Life}:∀ {as:List Addr},Zkq (absHeap t n life) as=Zoi t n as
  | []=>rfl
  | a :: r=>by
    have ih:=Zm9 (t:=t) (n:=n) (life:=life) (as:=r)
    unfold Zkq at ih ⊢
    rw [List.filterMap_cons,Zoi,ih,Zt8]
    cases h:Nat.blt a n with
    | true =>
      rw [if_pos (show a < n from Nat.le_of_ble_eq_true h)]
      cases alive ((t.get a).getD default) <;> rfl
    | false =>
      rw [if_neg (fun q=>by rw [show Nat.blt a n=true from Nat.ble_eq_true_of_le q] at h;cases h)]
      rfl
noncomputable def Zms (P:Pg) (as:List Addr):Hook where
  α:=Bool
  obs s:=Zn4 (Zkq s.heap as) P
  val _:=true
  says _ h:=∃ K:Frag,K.In h∧Zn4 K P=true
  of _ s e:=⟨_,Zq5,e⟩
  keeps _ _ _:=fun ⟨K,a,b⟩ k=>⟨K,Frag.In.keeps a k,b⟩
theorem Zn7 {P:Pg} {as:List Addr} (s:SharedT):(Zms P as).obs s.abs=Zn4 (Zoi s.tree s.n as) P:=congrArg (Zn4 · P) Zm9
end Mine
end
section
open PySem PySem.W PyProof.Rows PySem.Spec PySem.SeqAt PySem.Calls
namespace Mine
noncomputable def Gh (H H':Zaa):Prop:=∀ H₁,Real H H₁→Real H' H₁
theorem Gh.refl {H:Zaa}:Gh H H:=fun _ r=>r
theorem Gh.less {H H':Zaa} (k:∀ a x,H' a=some x→H a=some x):Gh H H':=fun _ r=>r.less k
theorem St.gh {c:Cx} {R:RR} {H H':Zaa} {h:Heap} (S:St c R H h) (g:Gh H H'):St c R H' h:=let ⟨H₁,s,r⟩:=S;⟨H₁,s,g H₁ r⟩
theorem ExcSt.gh {c:Cx} {R:RR} {H H':Zaa} {e:Addr} {cl:String} {fl:Value} {h:Heap} (X:ExcSt c R H e cl fl h) (g:Gh H H'):ExcSt c R H' e cl fl h:=let ⟨H₁,s,r⟩:=X;⟨H₁,s,g H₁ r⟩
theorem CallOK.post {c:Cx} {n:Nat} {md:Bool} {f:String} {args:List AV} {Q Q':AV→Zaa→Prop} {E E':String→Zaa→Prop} {H:Zaa} (h:CallOK c n md f args Q E H) (k:∀ v H,Q v H→∃ H',Gh H H'∧Q' v H') (e:∀ cl H,E cl H→∃ H',Gh H H'∧E' cl H'):CallOK c n md f args Q' E' H :=
  fun A stk R s vals Rs a b d v p q=>h A stk R s vals Rs a b d v (fun av v s' H' x y z w=>let ⟨H'',g,w'⟩:=k _ _ w;p av v s' H'' x (y.gh g) z w') (fun ee cl s' H' x y z=>let ⟨H'',g,w'⟩:=e _ _ z;q ee cl s' H'' (x.gh g) y w')
structure Fr1 (o:Addr→Option Role) (H:Zaa) (o':Addr→Option Role) (H':Zaa):Prop where
  old:∀ a x,H a=some x→o a=none→H' a=some x∧o' a=none
  gr:∀ a,H' a=none→H a=none
theorem Zde {H:Zaa} {x a:Addr} {y:AObj} (h:up H x y a=none):H a=none:=by
  by_cases e:a=x
  · rw [e,Zad] at h;cases h
  · rw [Zab e] at h;exact h
theorem Fr1.refl {o:Addr→Option Role} {H:Zaa}:Fr1 o H o H:=⟨fun _ _ h k=>⟨h,k⟩,fun _ h=>h⟩
theorem Fr1.trans {o o' o'':Addr→Option Role} {H H' H'':Zaa} (x:Fr1 o H o' H') (y:Fr1 o' H' o'' H''):Fr1 o H o'' H'':=⟨fun a z h k=>y.old a z (x.old a z h k).1 (x.old a z h k).2,fun a h=>x.gr a (y.gr a h)⟩
theorem Zb3 {c:Cx} {n:Nat} {md:Bool} {f:String} {args:List AV} {Q:AV→Zaa→Prop} {E:String→Zaa→Prop} {H:Zaa} {b:Addr} {B:Bk} (hb:H b=some (.book B))
    (h:∀ H₂ o f' s p as,IsBook o H₂ b f' s p as B→(∀ a x,H a=some x→a≠b→H₂ a=some x∧o a=none) →
      CallOK c n md f args
        (fun v H'=>∃ o' f' s p as B',IsBook o' H' b f' s p as B'∧Fr1 o H₂ o' H'∧((∀ a,v≠.ref a)∧Q v (up H b (.book B'))∨∃ z xs,v = .ref z∧H z=none∧H' z=some (.list xs)∧o' z=none∧Q v (up (up H b (.book B')) z (.list xs))))
        (fun cl H'=>∃ o' f' s p as B',IsBook o' H' b f' s p as B'∧Fr1 o H₂ o' H'∧E cl (up H b (.book B'))) H₂):CallOK c n md f args Q E H:=by
  intro A stk R s vals Rs a1 a2 S a4 kQ kE
  obtain ⟨H₁,S1,r⟩:=S
  obtain ⟨H₂,o,f',sa,p,as,r2,ib,hold⟩:=r.unpack hb
  have back:∀ H' o' f' s p as B',IsBook o' H' b f' s p as B'→Fr1 o H₂ o' H'→Gh H' (up H b (.book B')):=fun H' o' f' s p as B' ib' fr H₁ r=>by
    refine r.pack ib' fun a x e=>?_
    by_cases z:a=b
    · subst z;rw [Zad] at e;cases e;exact .inl ⟨rfl,rfl⟩
    · rw [Zab z] at e
      obtain ⟨e1,e2⟩:=hold a x e z
      obtain ⟨e3,e4⟩:=fr.old a x e1 e2
      exact .inr ⟨z,e4,e3⟩
  refine (CallOK.post (h H₂ o f' sa p as ib hold) (fun v H' q=>?_) fun cl H' q=>?_) A stk R s vals Rs a1 a2 ⟨H₁,S1,r2⟩ a4 kQ kE
  · obtain ⟨o',f',s,p,as,B',ib',fr,q | ⟨z,xs,rfl,hz,hz',ho,q⟩⟩:=q
    · exact ⟨_,back _ _ _ _ _ _ _ ib' fr,q.2⟩
    · refine ⟨_,fun H₁ r=>?_,q⟩
      refine r.pack ib' fun a x e=>?_
      have hzb:z≠b:=fun w=>by rw [w,hb] at hz;cases hz
      by_cases w:a=z
      · subst w;rw [Zad] at e;cases e;exact .inr ⟨hzb,ho,hz'⟩
      · rw [Zab w] at e
        by_cases y:a=b
        · subst y;rw [Zad] at e;cases e;exact .inl ⟨rfl,rfl⟩
        · rw [Zab y] at e
          obtain ⟨e1,e2⟩:=hold a x e y
          obtain ⟨e3,e4⟩:=fr.old a x e1 e2
          exact .inr ⟨y,e4,e3⟩
  · obtain ⟨o',f',s,p,as,B',ib',fr,q⟩:=q
    exact ⟨_,back _ _ _ _ _ _ _ ib' fr,q⟩
end Mine
end
section
end
section
open PySem PySem.W PyProof.Rows PySem.Spec PySem.SeqAt PySem.Calls
namespace Mine.BK
noncomputable def f_are_met:Fn:=⟨4,["names","needs","kept","done","found","name"],[
  .assign (.var 4) (.list []),
  .for (.var 5) (.var 0) [.ite (.cmp .Eq (.comp (.var 6) 1 false (.sub (.var 1) (.var 5)) (some (.ao true [(.cmp .NotIn (.var 6) (.var 2)),(.cmp .NotIn (.var 6) (.var 3))]))) (.list [])) [.expr (.bm (.var 4) .append [(.var 5)])] []],
  .ret (.var 4)]⟩
noncomputable def f_table_of:Fn:=⟨1,["names","table","name"],[
  .assign (.var 1) (.dict [] []),
  .for (.var 2) (.var 0) [.assign (.sub (.var 1) (.var 2)) (.lit (.bool true))],
  .ret (.var 1)]⟩
noncomputable def f_greatest:Fn:=⟨3,["full","needs","done","ready","names","found"],[
  .assign (.var 3) (.call "table_of" [(.var 2)]),
  .assign (.var 4) (.prim .list [(.var 0)]),
  .assign (.var 5) (.call "are_met" [(.var 4),(.var 1),(.call "table_of" [(.var 4)]),(.var 3)]),
  .while (.cmp .Lt (.prim .len [(.var 5)]) (.prim .len [(.var 4)])) [.assign (.var 4) (.var 5),
    .assign (.var 5) (.call "are_met" [(.var 4),(.var 1),(.call "table_of" [(.var 4)]),(.var 3)])],
  .ret (.var 5)]⟩
noncomputable def f_is_whole:Fn:=⟨1,["thing"],[
  .ret (.ao true [(.isinst (.var 0) "int"),(.not (.isinst (.var 0) "bool"))])]⟩
noncomputable def f_is_name:Fn:=⟨1,["thing","sign"],[
  .ite (.ao false [(.not (.isinst (.var 0) "str")),(.not (.cmp2 .LtE .LtE (.lit (.int 1)) (.prim .len [(.var 0)]) (.glob "MOST_SIGNS")))]) [.ret (.lit (.bool false))] [],
  .for (.var 1) (.var 0) [.ite (.cmp .NotIn (.var 1) (.glob "LETTERS")) [.ret (.lit (.bool false))] []],
  .ret (.lit (.bool true))]⟩
noncomputable def f_name_of:Fn:=⟨1,["thing"],[
  .ite (.not (.call "is_name" [(.var 0)])) [.raise "NoName" (Str.ofString "no name")] [],
  .ret (.var 0)]⟩
noncomputable def f_amount_of:Fn:=⟨1,["thing"],[
  .ite (.ao false [(.not (.call "is_whole" [(.var 0)])),(.not (.cmp2 .LtE .LtE (.lit (.int 1)) (.var 0) (.glob "MOST_AMOUNT")))]) [.raise "NoAmount" (Str.ofString "no amount")] [],
  .ret (.var 0)]⟩
noncomputable def f_Pact___init__:Fn:=⟨6,["self","name","parts","gains","needs","last"],[
  .assign (.attr (.var 0) "name") (.var 1),
  .assign (.attr (.var 0) "parts") (.var 2),
  .assign (.attr (.var 0) "gains") (.var 3),
  .assign (.attr (.var 0) "needs") (.var 4),
  .assign (.attr (.var 0) "last") (.var 5),
  .assign (.attr (.var 0) "state") (.lit (.str (Str.ofString "open"))),
  .assign (.attr (.var 0) "inside") (.dict [] [])]⟩
noncomputable def f_Pact_part_of:Fn:=⟨2,["self","purse","pair"],[
  .for (.var 2) (.attr (.var 0) "parts") [.ite (.cmp .Eq (.sub (.var 2) (.lit (.int 0))) (.var 1)) [.ret (.sub (.var 2) (.lit (.int 1)))] []],
  .ret (.lit .none)]⟩
noncomputable def f_Pact_is_full:Fn:=⟨1,["self"],[
  .ret (.ao true [(.cmp .Eq (.attr (.var 0) "state") (.lit (.str (Str.ofString "open")))),(.cmp .Eq (.prim .len [(.attr (.var 0) "inside")]) (.prim .len [(.attr (.var 0) "parts")]))])]⟩
noncomputable def f_Book___init__:Fn:=⟨1,["self"],[
  .assign (.attr (.var 0) "day") (.lit (.int 0)),
  .assign (.attr (.var 0) "free") (.dict [] []),
  .assign (.attr (.var 0) "aside") (.dict [] []),
  .assign (.attr (.var 0) "pacts") (.dict [] [])]⟩
noncomputable def f_Book_need_purse:Fn:=⟨2,["self","purse"],[
  .ite (.ao false [(.not (.call "is_name" [(.var 1)])),(.cmp .NotIn (.var 1) (.attr (.var 0) "free"))]) [.raise "NoPurse" (Str.ofString "no such purse")] []]⟩
noncomputable def f_Book_need_pact:Fn:=⟨2,["self","pact"],[
  .ite (.ao false [(.not (.call "is_name" [(.var 1)])),(.cmp .NotIn (.var 1) (.attr (.var 0) "pacts"))]) [.raise "NoPact" (Str.ofString "no such pact")] [],
  .ret (.sub (.attr (.var 0) "pacts") (.var 1))]⟩
noncomputable def f_Book_need_open:Fn:=⟨2,["self","pact","found"],[
  .assign (.var 2) (.meth (.var 0) "need_pact" [(.var 1)]),
  .ite (.cmp .NotEq (.attr (.var 2) "state") (.lit (.str (Str.ofString "open")))) [.raise "NotOpen" (Str.ofString "the pact isn't open")] [],
  .ret (.var 2)]⟩
noncomputable def f_Book_open_purse:Fn:=⟨2,["self","name"],[
  .expr (.call "name_of" [(.var 1)]),
  .ite (.cmp .In (.var 1) (.attr (.var 0) "free")) [.raise "Taken" (Str.ofString "there is such a purse")] [],
  .assign (.sub (.attr (.var 0) "free") (.var 1)) (.lit (.int 0)),
  .assign (.sub (.attr (.var 0) "aside") (.var 1)) (.lit (.int 0))]⟩
noncomputable def f_Book_put:Fn:=⟨3,["self","purse","amount"],[
  .expr (.meth (.var 0) "need_purse" [(.var 1)]),
  .assign (.sub (.attr (.var 0) "free") (.var 1)) (.bin .Add (.sub (.attr (.var 0) "free") (.var 1)) (.call "amount_of" [(.var 2)]))]⟩
noncomputable def f_Book_take:Fn:=⟨3,["self","purse","amount"],[
  .expr (.meth (.var 0) "need_purse" [(.var 1)]),
  .expr (.call "amount_of" [(.var 2)]),
  .ite (.cmp .Lt (.sub (.attr (.var 0) "free") (.var 1)) (.var 2)) [.raise "TooLittle" (Str.ofString "less is free")] [],
  .assign (.sub (.attr (.var 0) "free") (.var 1)) (.bin .Sub (.sub (.attr (.var 0) "free") (.var 1)) (.var 2))]⟩
noncomputable def f_Book_pairs_of:Fn:=⟨2,["self","pairs","found","seen","pair"],[
  .ite (.not (.cmp2 .LtE .LtE (.lit (.int 1)) (.prim .len [(.var 1)]) (.glob "MOST"))) [.raise "NoRow" (Str.ofString "one to eight pairs are wanted")] [],
  .assign (.var 2) (.list []),
  .assign (.var 3) (.dict [] []),
  .for (.var 4) (.var 1) [.expr (.meth (.var 0) "need_purse" [(.sub (.var 4) (.lit (.int 0)))]),
    .ite (.cmp .In (.sub (.var 4) (.lit (.int 0))) (.var 3)) [.raise "Twice" (Str.ofString "a purse stands twice")] [],
    .assign (.sub (.var 3) (.sub (.var 4) (.lit (.int 0)))) (.lit (.bool true)),
    .expr (.bm (.var 2) .append [(.tuple [(.sub (.var 4) (.lit (.int 0))),(.call "amount_of" [(.sub (.var 4) (.lit (.int 1)))])])])],
  .ret (.var 2)]⟩
noncomputable def f_Book_needs_of:Fn:=⟨3,["self","name","needs","seen","one"],[
  .ite (.cmp .Gt (.prim .len [(.var 2)]) (.glob "MOST")) [.raise "NoRow" (Str.ofString "up to eight needs are wanted")] [],
  .assign (.var 3) (.dict [(.var 1)] [(.lit (.bool true))]),
  .for (.var 4) (.var 2) [.expr (.call "name_of" [(.var 4)]),
    .ite (.cmp .In (.var 4) (.var 3)) [.raise "Twice" (Str.ofString "a need stands twice")] [],
    .assign (.sub (.var 3) (.var 4)) (.lit (.bool true)),
    .ite (.ao true [(.cmp .In (.var 4) (.attr (.var 0) "pacts")),(.cmp .Eq (.attr (.sub (.attr (.var 0) "pacts") (.var 4)) "state") (.lit (.str (Str.ofString "fallen"))))]) [.raise "Fallen" (Str.ofString "a need has fallen")] []],
  .ret (.prim .list [(.var 2)])]⟩
noncomputable def f_Book_tell:Fn:=⟨6,["self","name","parts","gains","needs","last","ones","others","wanted"],[
  .expr (.call "name_of" [(.var 1)]),
  .ite (.cmp .In (.var 1) (.attr (.var 0) "pacts")) [.raise "Taken" (Str.ofString "there is such a pact")] [],
  .assign (.var 6) (.meth (.var 0) "pairs_of" [(.var 2)]),
  .assign (.var 7) (.meth (.var 0) "pairs_of" [(.var 3)]),
  .ite (.cmp .NotEq (.prim .sum [(.comp (.sub (.var 9) (.lit (.int 1))) 1 false (.var 6) none)]) (.prim .sum [(.comp (.sub (.var 9) (.lit (.int 1))) 1 false (.var 7) none)])) [.raise "Uneven" (Str.ofString "parts and gains come to different sums")] [],
  .assign (.var 8) (.meth (.var 0) "needs_of" [(.var 1),(.var 4)]),
  .ite (.ao false [(.not (.call "is_whole" [(.var 5)])),(.cmp .Lt (.var 5) (.attr (.var 0) "day"))]) [.raise "NoDay" (Str.ofString "no day from now on")] [],
  .assign (.sub (.attr (.var 0) "pacts") (.var 1)) (.new "Pact" [(.var 1),(.var 6),(.var 7),(.var 8),(.var 5)])]⟩
noncomputable def f_Book_set_aside:Fn:=⟨3,["self","purse","pact","found","amount"],[
  .expr (.meth (.var 0) "need_purse" [(.var 1)]),
  .assign (.var 3) (.meth (.var 0) "need_open" [(.var 2)]),
  .assign (.var 4) (.meth (.var 3) "part_of" [(.var 1)]),
  .ite (.cmp .Is (.var 4) (.lit .none)) [.raise "NoPart" (Str.ofString "the pact has no part of that purse")] [],
  .ite (.cmp .In (.var 1) (.attr (.var 3) "inside")) [.raise "Already" (Str.ofString "the part is set aside already")] [],
  .ite (.cmp .Lt (.sub (.attr (.var 0) "free") (.var 1)) (.var 4)) [.raise "TooLittle" (Str.ofString "less is free")] [],
  .assign (.sub (.attr (.var 3) "inside") (.var 1)) (.lit (.bool true)),
  .assign (.sub (.attr (.var 0) "free") (.var 1)) (.bin .Sub (.sub (.attr (.var 0) "free") (.var 1)) (.var 4)),
  .assign (.sub (.attr (.var 0) "aside") (.var 1)) (.bin .Add (.sub (.attr (.var 0) "aside") (.var 1)) (.var 4))]⟩
noncomputable def f_Book_given_back:Fn:=⟨3,["self","purse","amount"],[
  .assign (.sub (.attr (.var 0) "aside") (.var 1)) (.bin .Sub (.sub (.attr (.var 0) "aside") (.var 1)) (.var 2)),
  .assign (.sub (.attr (.var 0) "free") (.var 1)) (.bin .Add (.sub (.attr (.var 0) "free") (.var 1)) (.var 2))]⟩
noncomputable def f_Book_draw_back:Fn:=⟨3,["self","purse","pact","found"],[
  .expr (.meth (.var 0) "need_purse" [(.var 1)]),
  .assign (.var 3) (.meth (.var 0) "need_open" [(.var 2)]),
  .ite (.cmp .NotIn (.var 1) (.attr (.var 3) "inside")) [.raise "NotAside" (Str.ofString "nothing of that purse is set aside")] [],
  .expr (.bm (.attr (.var 3) "inside") .pop [(.var 1)]),
  .expr (.meth (.var 0) "given_back" [(.var 1),(.meth (.var 3) "part_of" [(.var 1)])])]⟩
noncomputable def f_Book_fell:Fn:=⟨2,["self","pact","pair"],[
  .for (.var 2) (.attr (.var 1) "parts") [.ite (.cmp .In (.sub (.var 2) (.lit (.int 0))) (.attr (.var 1) "inside")) [.expr (.meth (.var 0) "given_back" [(.sub (.var 2) (.lit (.int 0))),(.sub (.var 2) (.lit (.int 1)))])] []],
  .assign (.attr (.var 1) "inside") (.dict [] []),
  .assign (.attr (.var 1) "state") (.lit (.str (Str.ofString "fallen"))),
  .ret (.attr (.var 1) "name")]⟩
noncomputable def f_Book_first_dragged:Fn:=⟨1,["self","pact","need"],[
  .for (.var 1) (.prim .list [(.bm (.attr (.var 0) "pacts") .values [])]) [.ite (.cmp .Eq (.attr (.var 1) "state") (.lit (.str (Str.ofString "open")))) [.for (.var 2) (.attr (.var 1) "needs") [.ite (.ao true [(.cmp .In (.var 2) (.attr (.var 0) "pacts")),(.cmp .Eq (.attr (.sub (.attr (.var 0) "pacts") (.var 2)) "state") (.lit (.str (Str.ofString "fallen"))))]) [.ret (.var 1)] []]] []],
  .ret (.lit .none)]⟩
noncomputable def f_Book_dragged:Fn:=⟨2,["self","names","found","pact"],[
  .assign (.var 2) (.prim .list [(.var 1)]),
  .assign (.var 3) (.meth (.var 0) "first_dragged" []),
  .while (.cmp .IsNot (.var 3) (.lit .none)) [.expr (.bm (.var 2) .append [(.meth (.var 0) "fell" [(.var 3)])]),
    .assign (.var 3) (.meth (.var 0) "first_dragged" [])],
  .ret (.var 2)]⟩
noncomputable def f_Book_call_off:Fn:=⟨2,["self","pact"],[
  .ret (.meth (.var 0) "dragged" [(.list [(.meth (.var 0) "fell" [(.meth (.var 0) "need_open" [(.var 1)])])])])]⟩
noncomputable def f_Book_standing:Fn:=⟨1,["self","ready","needs","done","pact"],[
  .assign (.var 1) (.list []),
  .assign (.var 2) (.dict [] []),
  .assign (.var 3) (.list []),
  .for (.var 4) (.prim .list [(.bm (.attr (.var 0) "pacts") .values [])]) [.ite (.meth (.var 4) "is_full" []) [.expr (.bm (.var 1) .append [(.attr (.var 4) "name")]),
      .assign (.sub (.var 2) (.attr (.var 4) "name")) (.prim .list [(.attr (.var 4) "needs")])] [],
    .ite (.cmp .Eq (.attr (.var 4) "state") (.lit (.str (Str.ofString "done")))) [.expr (.bm (.var 3) .append [(.attr (.var 4) "name")])] []],
  .ret (.tuple [(.var 1),(.var 2),(.var 3)])]⟩
noncomputable def f_Book_settle:Fn:=⟨1,["self","found","names","name","pact","pair"],[
  .assign (.var 1) (.meth (.var 0) "standing" []),
  .assign (.var 2) (.call "greatest" [(.sub (.var 1) (.lit (.int 0))),(.sub (.var 1) (.lit (.int 1))),(.sub (.var 1) (.lit (.int 2)))]),
  .for (.var 3) (.var 2) [.assign (.var 4) (.sub (.attr (.var 0) "pacts") (.var 3)),
    .for (.var 5) (.attr (.var 4) "parts") [.assign (.sub (.attr (.var 0) "aside") (.sub (.var 5) (.lit (.int 0)))) (.bin .Sub (.sub (.attr (.var 0) "aside") (.sub (.var 5) (.lit (.int 0)))) (.sub (.var 5) (.lit (.int 1))))],
    .for (.var 5) (.attr (.var 4) "gains") [.assign (.sub (.attr (.var 0) "free") (.sub (.var 5) (.lit (.int 0)))) (.bin .Add (.sub (.attr (.var 0) "free") (.sub (.var 5) (.lit (.int 0)))) (.sub (.var 5) (.lit (.int 1))))],
    .assign (.attr (.var 4) "inside") (.dict [] []),
    .assign (.attr (.var 4) "state") (.lit (.str (Str.ofString "done")))],
  .ret (.var 2)]⟩
noncomputable def f_Book_purses:Fn:=⟨1,["self"],[
  .ret (.prim .list [(.attr (.var 0) "free")])]⟩
noncomputable def f_Book_told:Fn:=⟨1,["self"],[
  .ret (.prim .list [(.attr (.var 0) "pacts")])]⟩
noncomputable def f_Book_free_of:Fn:=⟨2,["self","purse"],[
  .expr (.meth (.var 0) "need_purse" [(.var 1)]),
  .ret (.sub (.attr (.var 0) "free") (.var 1))]⟩
noncomputable def f_Book_state_of:Fn:=⟨2,["self","pact"],[
  .ret (.attr (.meth (.var 0) "need_pact" [(.var 1)]) "state")]⟩
noncomputable def f_Book_inside_of:Fn:=⟨2,["self","pact","found"],[
  .assign (.var 2) (.meth (.var 0) "need_pact" [(.var 1)]),
  .ret (.comp (.sub (.var 3) (.lit (.int 0))) 1 false (.attr (.var 2) "parts") (some (.cmp .In (.sub (.var 3) (.lit (.int 0))) (.attr (.var 2) "inside"))))]⟩
noncomputable def f_Book_full:Fn:=⟨2,["self","pact"],[
  .ret (.meth (.meth (.var 0) "need_pact" [(.var 1)]) "is_full" [])]⟩
noncomputable def f_Book_pass_days:Fn:=⟨2,["self","count","names","pact"],[
  .ite (.ao false [(.not (.call "is_whole" [(.var 1)])),(.cmp .Lt (.var 1) (.lit (.int 1)))]) [.raise "NoDay" (Str.ofString "no count of days")] [],
  .assign (.attr (.var 0) "day") (.bin .Add (.attr (.var 0) "day") (.var 1)),
  .assign (.var 2) (.list []),
  .for (.var 3) (.prim .list [(.bm (.attr (.var 0) "pacts") .values [])]) [.ite (.ao true [(.cmp .Eq (.attr (.var 3) "state") (.lit (.str (Str.ofString "open")))),(.cmp .Lt (.attr (.var 3) "last") (.attr (.var 0) "day"))]) [.expr (.bm (.var 2) .append [(.meth (.var 0) "fell" [(.var 3)])])] []],
  .ret (.meth (.var 0) "dragged" [(.var 2)])]⟩
noncomputable def f__law_cell_at:Fn:=⟨2,["_law_script","_law_k"],[
  .ite (.cmp .Lt (.var 1) (.prim .len [(.var 0)])) [.ret (.sub (.var 0) (.var 1))] [],
  .ret (.lit (.int 0))]⟩
noncomputable def f__law_mixed:Fn:=⟨2,["_law_number","_law_k"],[
  .ret (.bin .Mod (.bin .Add (.bin .Add (.bin .Mult (.var 0) (.lit (.int 6364136223846793005))) (.bin .Mult (.var 1) (.lit (.int 1442695040888963407)))) (.lit (.int 1013904223))) (.lit (.int 2305843009213693951)))]⟩
end Mine.BK
namespace Mine.BK
noncomputable def consts:List (String×AV):=[("LETTERS",(.str (Str.ofString "abcdefghijklmnopqrstuvwxyz"))),("MOST_SIGNS",(.int 12)),("MOST_AMOUNT",(.int 1000000000000000000000000000000)),("MOST",(.int 8))]
noncomputable def meths:List (String×String):=[("Pact","__init__"),("Pact","part_of"),("Pact","is_full"),("Book","__init__"),("Book","need_purse"),("Book","need_pact"),("Book","need_open"),("Book","open_purse"),("Book","put"),("Book","take"),("Book","pairs_of"),("Book","needs_of"),("Book","tell"),("Book","set_aside"),("Book","given_back"),("Book","draw_back"),("Book","fell"),("Book","first_dragged"),("Book","dragged"),("Book","call_off"),("Book","pass_days"),("Book","standing"),("Book","settle"),("Book","why_not"),("Book","purses"),("Book","told"),("Book","free_of"),("Book","aside_of"),("Book","state_of"),("Book","inside_of"),("Book","full")]
noncomputable def attrs:List (String×String):=[("Book","aside"),("Book","day"),("Book","free"),("Book","pacts"),("Pact","gains"),("Pact","inside"),("Pact","last"),("Pact","name"),("Pact","needs"),("Pact","parts"),("Pact","state")]
end Mine.BK
namespace Mine
structure HasA (P:Pg):Prop where
  meths:P.meths=BK.meths
  attrs:P.attrs=BK.attrs
  consts:P.consts=BK.consts
  is_whole:P.fns.lookup "is_whole" = some BK.f_is_whole
  is_name:P.fns.lookup "is_name" = some BK.f_is_name
  name_of:P.fns.lookup "name_of" = some BK.f_name_of
  amount_of:P.fns.lookup "amount_of" = some BK.f_amount_of
  init:P.fns.lookup "Book.__init__" = some BK.f_Book___init__
  need_purse:P.fns.lookup "Book.need_purse" = some BK.f_Book_need_purse
  open_purse:P.fns.lookup "Book.open_purse" = some BK.f_Book_open_purse
  put:P.fns.lookup "Book.put" = some BK.f_Book_put
  purses:P.fns.lookup "Book.purses" = some BK.f_Book_purses
  told:P.fns.lookup "Book.told" = some BK.f_Book_told
  free_of:P.fns.lookup "Book.free_of" = some BK.f_Book_free_of
noncomputable def Zds:AV→Bool
  | .str s=>isNm s
  | _=>false
noncomputable def Zg4:AV→Bool
  | .int _=>true
  | _=>false
noncomputable def Zcj:AV→Bool
  | .int i=>decide (1≤i∧i≤1000000000000000000000000000000)
  | _=>false
noncomputable def Kn (H:Zaa) (v:AV):Prop:=(∃ k,Zgm H v=some k)∧∀ s,v = .str s→s.length < 2 ^ 62
theorem wfor {QN:VV→Zaa→Prop} {stp:AV→(VV→Zaa→Prop)→VV→Zaa→Prop} {v:AV} {V:VV} {H:Zaa} {xs:List AV} (hx:Zas H v=some xs) (I:Nat→VV→Zaa→Prop) (h0:I 0 V H)
    (hs:∀ k V' H',I k V' H'→Zdu H H' v∧(k=xs.length→QN V' H')∧∀ x,xs[k]? = some x→stp x (I (k + 1)) V' H'):WFor QN stp v V H:=⟨xs,hx,I,h0,hs⟩
section
variable {c:Cx} {P:Pg} (G:Gd c P) (U:HasA P) {n:Nat} {md:Bool} {Q:AV→Zaa→Prop} {E:String→Zaa→Prop} {H:Zaa}
theorem Zth {v:AV} (h:Zgm H v=some "str"):∃ s,v = .str s:=by
  cases v with
  | str s=>exact ⟨s,rfl⟩
  | ref a=>simp only [Zgm] at h;split at h <;> simp at h
  | _=>simp [Zgm] at h
theorem Zs1 {v:AV} {k:String} (hk:Zgm H v=some k) (h:k≠"str"):Zds v=false:=by
  cases v with
  | str s=>simp [Zgm] at hk;exact absurd hk.symm h
  | _=>rfl
theorem Z0d {g:Gx} (hmd:g.md=true) {s:Str} {e:X} {V:VV} {QN:VV→Zaa→Prop} {E:String→VV→Zaa→Prop} (he:∀ V H Q E,wpX g e V Q E H=Q (.str letters) H) (hV:V=[some (.str s),none]) (h1:(s.cps.toList.all fun ch=>letters.cps.toList.contains ch)=true→∀ a,QN [some (.str s),a] H) (h2:(s.cps.toList.all fun ch=>letters.cps.toList.contains ch)=false→Q (.bool false) H) :
    wpS g (.for (.var 1) (.var 0) [.ite (.cmp .NotIn (.var 1) e) [.ret (.lit (.bool false))] []]) QN Q E V H:=by
  subst hV
  simp only [Zay,Zbt,Zaj,Zal,Za4,Zbd,Zbu,Zdp,Zct]
  refine ⟨hmd,?_⟩
  dsimp only [v_0,Zah,Zae,Zau,Zbq,Zbb,x_ao,Zap,Za1,Zar,Zav,Za0,Zam,Zak,x_bm,Zbo,Zaw,Zbc,Zao,Zaf,Zac,Zba,Zaz,Zbv,Zbs,Zbj,Zbn,tv,tsub,tattr,wtg,Zb5,Zda,Zd6,Zb1,Zby,Zej,Zcr,c_lt,c_le,c_gt,c_ge,c_eq,c_ne,Zcf,Zdn,c_in,Zdm,Zai,Zeb,Zc0,Zax,Zb0,Zay,Zbt,Zaj,Zal,Za4]
  refine wfor (xs:=s.cps.toList.map fun ch=>AV.str ⟨#[ch]⟩) rfl (fun k V' H'=>H'=H∧(∃ a,V'=[some (.str s),a])∧∀ ch∈s.cps.toList.take k,letters.cps.toList.contains ch=true) ⟨rfl,⟨_,rfl⟩,by simp⟩ ?_
  rintro k V' H' ⟨rfl,⟨a,rfl⟩,hin⟩
  refine ⟨trivial,fun hk=>h1 ?_ a,fun x hx=>?_⟩
  · rw [hk,List.length_map,List.take_length] at hin
    rw [List.all_eq_true];exact hin
  · rw [List.getElem?_map,Option.map_eq_some_iff] at hx
    obtain ⟨ch,hch,rfl⟩:=hx
    dsimp only [List.length_cons,List.length_nil,Nat.reduceAdd,List.set_cons_succ,List.set_cons_zero,List.getElem?_cons_succ,v_0];simp [he,v_0,Zah,Zae,Zau,Zbq,Zbb,x_ao,Zap,Za1,Zar,Zav,Za0,Zam,Zak,x_bm,Zbo,Zaw,Zbc,Zao,Zaf,Zac,Zba,Zaz,Zbv,Zbs,Zbj,Zbn,tv,tsub,tattr,wtg,Zb5,Zda,Zd6,Zb1,Zby,Zej,Zcr,c_lt,c_le,c_gt,c_ge,c_eq,c_ne,Zcf,Zdn,c_in,Zdm,Zai,Zeb,Zc0,Zax,Zb0,Zay,Zbt,Zaj,Zal,Za4]
    refine ⟨ch,rfl,?_⟩
    cases hc:letters.cps.toList.contains ch with
    | true =>
      simp only [Zai]
      simp
      intro ch' hch'
      rw [List.take_add_one,hch] at hch'
      rcases List.mem_append.mp hch' with h | h
      · simpa using hin ch' h
      · simp at h;subst h;simpa using hc
    | false =>
      simp only [Zai]
      simp
      apply h2
      rw [List.all_eq_false]
      exact ⟨ch,List.mem_of_getElem? hch,by rw [hc];simp⟩
theorem Zmx {P:Pg} {v:AV} {k ty:String} (hk:Zgm H v=some k) (ht:ty = "int"∨ty = "bool"∨ty = "str"∨ty = "list"):Zd5 P H v ty=some (k == ty || (k == "bool" && ty == "int")):=by
  unfold Zd5
  rw [if_pos ht,hk];rfl
theorem Zos {g:Gx} {V:VV} {i:Nat} {v:AV} {ty:String} {b:Bool} (hV:V[i]? = some (some v)) (h:Zd5 g.c.P H v ty=some b) (q:Q (.bool b) H):wpX g (.isinst (.var i) ty) V Q E H:=by
  rw [Zbo,Zae,hV]
  show match Zd5 g.c.P H v ty with | some b=>Q (.bool b) H | none=>False
  rw [h];exact q
theorem x_gl {g:Gx} {V:VV} {n:String} {v:AV} (h:g.c.P.consts.lookup n=some v) (q:Q v H):wpX g (.glob n) V Q E H:=by
  rw [Za0,h];exact q
include G U
theorem Zf4 {v:AV} (hk:Kn H v) (q:Q (.bool (Zds v)) H):CallOK c (n + 1) true "is_name" [v] Q E H:=by
  obtain ⟨⟨k,hk⟩,hl⟩:=hk
  refine G.call (F:=BK.f_is_name) U.is_name rfl ?_
  have hg:c.P.consts.lookup "MOST_SIGNS" = some (.int 12):=by rw [G.hP,U.consts];rfl
  have hg2:c.P.consts.lookup "LETTERS" = some (.str letters):=by rw [G.hP,U.consts];rfl
  have hi:=Zmx (P:=c.P) (ty:="str") hk (.inr (.inr (.inl rfl)))
  show wpSs _ _ _ _ _ [some v,none] _
  refine w_st fun K nx=>?_
  rw [Zay,x_ao,Zaz,Zbb]
  by_cases hks:k = "str"
  · subst hks
    obtain ⟨s,rfl⟩:=Zth hk
    have hl:=hl s rfl
    refine Zos (b:=true) rfl hi ?_
    rw [Zai]
    show wpAO _ false [_] _ _ _ _
    rw [Zba,Zbb,Za1,Zah,Zak,Zac,Zae]
    show wpXs _ [] _ _ _ _
    rw [Zaf,Zj9]
    refine ⟨hl,?_⟩
    rw [c_le,Zai]
    by_cases a:(1:Int)≤s.length
    · rw [decide_eq_true a,if_pos rfl]
      refine x_gl hg ?_
      rw [c_le,Zai]
      by_cases b:(s.length:Int)≤12
      · rw [decide_eq_true b]
        refine nx _ _ ?_
        refine w_st fun K nx=>?_
        refine Z0d rfl (fun V H Q E=>by rw [Za0,hg2]) rfl (fun h a'=>nx _ _ ?_) (fun h=>?_)
        · have:Zds (.str s)=true:=by show isNm s=true;unfold isNm;rw [h,Bool.and_true];exact decide_eq_true ⟨by lia,by lia⟩
          rw [this] at q;exact q
        · have:Zds (.str s)=false:=by show isNm s=false;unfold isNm;rw [h,Bool.and_false]
          rw [this] at q;exact q
      · rw [decide_eq_false b]
        have:Zds (.str s)=false:=by show isNm s=false;unfold isNm;rw [decide_eq_false (by lia),Bool.false_and]
        rw [this] at q;exact q
    · rw [decide_eq_false a,if_neg Bool.false_ne_true]
      have:Zds (.str s)=false:=by show isNm s=false;unfold isNm;rw [decide_eq_false (by lia),Bool.false_and]
      rw [this] at q;exact q
  · refine Zos (b:=false) rfl (by rw [hi,show (k == "str")=false from beq_false_of_ne hks];show some (false || (k == "bool" && false))=some false;rw [Bool.and_false];rfl) ?_
    rw [Zs1 hk hks] at q
    exact q
theorem Zlx {v:AV} (hk:Kn H v) (q:if Zds v then Q v H else E "NoName" H):CallOK c (n + 2) true "name_of" [v] Q E H:=by
  refine G.call (F:=BK.f_name_of) U.name_of rfl ?_
  show wpSs _ _ _ _ _ [some v] _
  refine w_st fun K nx=>?_
  rw [Zay,Zbb,Zam,Zac,Zae]
  show CallOK _ _ _ _ [v] _ _ _
  refine Zf4 G U hk ?_
  revert q
  cases Zds v with
  | true=>exact fun q=>nx _ _ q
  | false=>exact fun q=>⟨rfl,q⟩
omit G U in
theorem Zni {v:AV} {k:String} (h:Zgm H v=some k):Zg4 v=(k == "int"):=by
  cases v with
  | ref a =>
    revert h
    show (match H a with | some (.list _)=>some "list" | some (.tuple _)=>some "tuple" | some (.dict ..)=>some "dict" | _=>none)=some k→_
    split <;> intro h <;> cases h <;> rfl
  | _=>cases h;rfl
theorem Ze5 {v:AV} (hk:Kn H v) (q:Q (.bool (Zg4 v)) H):CallOK c (n + 1) md "is_whole" [v] Q E H:=by
  obtain ⟨⟨k,hk⟩,_⟩:=hk
  refine G.call (F:=BK.f_is_whole) U.is_whole rfl ?_
  show wpSs _ [_] _ _ _ [some v] _
  rw [Zax,Zbt,x_ao,Zaz]
  refine Zos rfl (Zmx hk (.inl rfl)) ?_
  rw [Zai]
  rw [Zni hk] at q
  by_cases h1:k = "int"
  · subst h1
    show wpAO _ true [_] _ _ _ _
    rw [Zba,Zbb]
    exact Zos (b:=false) rfl (Zmx hk (.inr (.inl rfl))) q
  · by_cases h2:k = "bool"
    · subst h2
      show wpAO _ true [_] _ _ _ _
      rw [Zba,Zbb]
      exact Zos (b:=true) rfl (Zmx hk (.inr (.inl rfl))) q
    · rw [beq_false_of_ne h1] at q
      rw [beq_false_of_ne h1,beq_false_of_ne h2]
      exact q
theorem Zh2 {v:AV} (hk:Kn H v) (q:if Zcj v then Q v H else E "NoAmount" H):CallOK c (n + 2) true "amount_of" [v] Q E H:=by
  refine G.call (F:=BK.f_amount_of) U.amount_of rfl ?_
  have hg:c.P.consts.lookup "MOST_AMOUNT" = some (.int 1000000000000000000000000000000):=by rw [G.hP,U.consts];rfl
  show wpSs _ _ _ _ _ [some v] _
  refine w_st fun K nx=>?_
  rw [Zay,x_ao,Zaz,Zbb,Zam,Zac,Zae]
  show CallOK _ _ _ _ [v] _ _ _
  refine Ze5 G U hk ?_
  cases v with
  | int i =>
    rw [Zai]
    show wpAO _ false [_] _ _ _ _
    rw [Zba,Zbb,Za1,Zah,Zae]
    show wcmp .LtE (.int 1) (.int i) _ _
    rw [c_le,Zai]
    by_cases a:1≤i
    · rw [decide_eq_true a,if_pos rfl]
      refine x_gl hg ?_
      rw [c_le,Zai]
      by_cases b:i≤1000000000000000000000000000000
      · rw [decide_eq_true b]
        rw [show Zcj (.int i)=true from decide_eq_true ⟨a,b⟩,if_pos rfl] at q
        exact nx _ _ q
      · rw [decide_eq_false b]
        rw [show Zcj (.int i)=false from decide_eq_false fun h=>b h.2,if_neg Bool.false_ne_true] at q
        exact ⟨rfl,q⟩
    · rw [decide_eq_false a,if_neg Bool.false_ne_true]
      rw [show Zcj (.int i)=false from decide_eq_false fun h=>a h.1,if_neg Bool.false_ne_true] at q
      exact ⟨rfl,q⟩
  | _=>exact ⟨rfl,q⟩
end
end Mine
end
section
open PySem PySem.W PyProof.Rows PySem.Spec PySem.SeqAt PySem.Calls
namespace Mine
theorem Zjj {l:List (Str×Int)} {k:Str}:Zbx (dI l) k=(lk l k).map .int:=by
  induction l with
  | nil=>rfl
  | cons e r ih =>
    unfold Zbx lk dI at *
    simp only [List.map_cons,List.find?_cons]
    by_cases h:e.1=k
    · simp [h]
    · simp [h];simpa using ih
theorem Zig {l:List (Str×Int)} {k:Str} {i:Int}:putS (dI l) k (.int i)=dI (pt l k i):=by
  unfold putS pt
  rw [Zjj,Option.isSome_map]
  split
  · unfold dI
    rw [List.map_map,List.map_map]
    congr 1
    funext e
    simp only [Function.comp]
    split <;> rfl
  · simp [dI]
theorem Ziy {l:List (Str×Int)}:(dI l).length=l.length:=by simp [dI]
noncomputable def hs (l:List (Str×Int)) (k:Str):Bool:=(lk l k).isSome
theorem Zgg {l:List (Str×Int)} {k:Str} (h:hs l k=true):lk l k=some ((lk l k).getD 0):=by
  unfold hs at h
  cases e:lk l k with
  | none=>rw [e] at h;cases h
  | some=>rfl
theorem Zb7 {o:Addr→Option Role} {a b:Addr} {r r':Role} (h1:o a=some r) (h2:o b=some r') (h:r≠r'):a≠b:=fun e=>by subst e;rw [h1] at h2;cases h2;exact h rfl
theorem Zi3 {o:Addr→Option Role} {H:Zaa} {x:Addr} {y:AObj} (hx:o x≠none):Fr1 o H o (up H x y):=⟨fun a z h k=>⟨by rw [Zab (fun q=>by subst q;exact hx k)];exact h,k⟩,fun _ h=>Zde h⟩
theorem Zh8 {P:Role→Prop} {o:Addr→Option Role} {H:Zaa} {x:Addr} {y:AObj} (hx:∀ r,o x=some r→¬ P r):KB P o o H (up H x y):=fun a r z hp ho hz _=>⟨ho,by rw [Zab (fun q=>by subst q;exact hx r ho hp)];exact hz⟩
noncomputable def Role.isP:Role→Prop
  | .data=>True
  | .pact _=>True
  | .inside _=>True
  | _=>False
section
variable {o:Addr→Option Role} {H:Zaa} {b f s p:Addr} {as:List Addr} {B:Bk} (ib:IsBook o H b f s p as B)
include ib
theorem IsBook.setFree (ep:Nat) (l:List (Str×Int)):IsBook o (up H f (.dict ep (dI l))) b f s p as { B with free:=l } :=
  ⟨ib.ob,ib.of,ib.os,ib.op,by rw [Zab (Zb7 ib.ob ib.of (by intro h;cases h))];exact ib.hb,⟨ep,Zad⟩,
    by rw [Zab (Zb7 ib.os ib.of (by intro h;cases h))];exact ib.hs,by rw [Zab (Zb7 ib.op ib.of (by intro h;cases h))];exact ib.hp,
    ib.ps.congr (P:=Role.isP) (Zh8 fun r h=>by rw [ib.of] at h;cases h;exact id) trivial fun _ _=>⟨trivial,trivial⟩⟩
theorem IsBook.setAside (ep:Nat) (l:List (Str×Int)):IsBook o (up H s (.dict ep (dI l))) b f s p as { B with aside:=l } :=
  ⟨ib.ob,ib.of,ib.os,ib.op,by rw [Zab (Zb7 ib.ob ib.os (by intro h;cases h))];exact ib.hb,by rw [Zab (Zb7 ib.of ib.os (by intro h;cases h))];exact ib.hf,
    ⟨ep,Zad⟩,by rw [Zab (Zb7 ib.op ib.os (by intro h;cases h))];exact ib.hp,
    ib.ps.congr (P:=Role.isP) (Zh8 fun r h=>by rw [ib.os] at h;cases h;exact id) trivial fun _ _=>⟨trivial,trivial⟩⟩
theorem IsBook.setDay (d:Int):IsBook o (up H b (.inst "Book" [("day",.int d),("free",.ref f),("aside",.ref s),("pacts",.ref p)])) b f s p as { B with day:=d } :=
  ⟨ib.ob,ib.of,ib.os,ib.op,Zad,by rw [Zab (Zb7 ib.of ib.ob (by intro h;cases h))];exact ib.hf,by rw [Zab (Zb7 ib.os ib.ob (by intro h;cases h))];exact ib.hs,
    by rw [Zab (Zb7 ib.op ib.ob (by intro h;cases h))];exact ib.hp,
    ib.ps.congr (P:=Role.isP) (Zh8 fun r h=>by rw [ib.ob] at h;cases h;exact id) trivial fun _ _=>⟨trivial,trivial⟩⟩
end
noncomputable def Zbz (B:Bk):AV→Bool
  | .str k=>isNm k && hs B.free k
  | _=>false
section
variable {c:Cx} {P:Pg} (G:Gd c P) (U:HasA P) {n:Nat} {md:Bool} {Q:AV→Zaa→Prop} {E:String→Zaa→Prop} {H:Zaa} {o:Addr→Option Role} {b f s p:Addr} {as:List Addr} {B:Bk}
section
variable {g:Gx} {V:VV} (ib:IsBook o H b f s p as B)
theorem Zcs {i:Nat} (hP:g.c.P.attrs=BK.attrs) (ib:IsBook o H b f s p as B) (hV:V[i]? = some (some (.ref b))) (q:Q (.ref f) H):wpX g (.attr (.var i) "free") V Q E H:=by
  simp only [Za3,Zbg,Zae,hV,ib.hb]
  exact ⟨by rw [hP];rfl,q⟩
theorem Zd7 {i:Nat} (hP:g.c.P.attrs=BK.attrs) (ib:IsBook o H b f s p as B) (hV:V[i]? = some (some (.ref b))) (q:Q (.ref s) H):wpX g (.attr (.var i) "aside") V Q E H:=by
  simp only [Za3,Zbg,Zae,hV,ib.hb]
  exact ⟨by rw [hP];rfl,q⟩
theorem Zcz {i:Nat} (hP:g.c.P.attrs=BK.attrs) (ib:IsBook o H b f s p as B) (hV:V[i]? = some (some (.ref b))) (q:Q (.ref p) H):wpX g (.attr (.var i) "pacts") V Q E H:=by
  simp only [Za3,Zbg,Zae,hV,ib.hb]
  exact ⟨by rw [hP];rfl,q⟩
theorem Zrq {i:Nat} (hP:g.c.P.attrs=BK.attrs) (ib:IsBook o H b f s p as B) (hV:V[i]? = some (some (.ref b))) (q:Q (.int B.day) H):wpX g (.attr (.var i) "day") V Q E H:=by
  simp only [Za3,Zbg,Zae,hV,ib.hb]
  exact ⟨by rw [hP];rfl,q⟩
theorem Zbh {i:Nat} {m:String} {xs:List X} (hP:g.c.P.meths=BK.meths) (hm:BK.meths.contains ("Book",m)=true) (hn:bookAttrs.contains m=false) (ib:IsBook o H b f s p as B) (hV:V[i]? = some (some (.ref b)))
    (q:wpXs g xs V (fun vs H=>CallOK g.c g.n g.md ("Book." ++ m) (.ref b :: vs) Q E H) E H):wpX g (.meth (.var i) m xs) V Q E H:=by
  simp only [Za3,Zbg,Zae,hV,ib.hb]
  refine ⟨by rw [hP];exact hm,?_,q⟩
  simp only [bookAttrs,List.contains_cons,List.contains_nil,Bool.or_false,Bool.or_eq_false_iff,beq_eq_false_iff_ne] at hn
  obtain ⟨n1,n2,n3,n4⟩:=hn
  simp [Zd3,n1.symm,n2.symm,n3.symm,n4.symm]
theorem Zc5 {k:Str} {v:Int} (ib:IsBook o H b f s p as B) (h:lk B.free k=some v) (q:Q (.int v) H):wsub (.ref f) (.str k) Q H:=by
  obtain ⟨ep,hf⟩:=ib.hf
  simp only [Zfb,Zhb,Zmh,hf]
  exact ⟨.int v,by rw [Zjj,h];rfl,q⟩
theorem Zfd {k:Str} {v:Int} (ib:IsBook o H b f s p as B) (h:lk B.aside k=some v) (q:Q (.int v) H):wsub (.ref s) (.str k) Q H:=by
  obtain ⟨ep,hf⟩:=ib.hs
  simp only [Zfb,Zhb,Zmh,hf]
  exact ⟨.int v,by rw [Zjj,h];rfl,q⟩
theorem Zqu {k:Str} {no:Bool} (ib:IsBook o H b f s p as B) (q:Q (.bool (hs B.free k != no)) H):win no (.str k) (.ref f) Q H:=by
  obtain ⟨ep,hf⟩:=ib.hf
  simp only [Zfr,Zl0,hf]
  rw [Zjj,Option.isSome_map,← Zn5]
  exact q
end
include G U
theorem Zcb {v:AV} (ib:IsBook o H b f s p as B) (hk:Kn H v) (q:if Zbz B v then Q .none H else E "NoPurse" H):CallOK c (n + 2) true "Book.need_purse" [.ref b,v] Q E H:=by
  refine G.call (F:=BK.f_Book_need_purse) U.need_purse rfl ?_
  have hA:c.P.attrs=BK.attrs:=by rw [G.hP,U.attrs]
  simp only [BK.f_Book_need_purse,Zgp,v_0,Zah,Zae,Zau,Zbq,Zbb,x_ao,Zap,Za1,Zar,Zav,Za0,Zam,Zak,x_bm,Zbo,Zaw,Zbc,Zao,Zaf,Zac,Zba,Zaz,Zbv,Zbs,Zbj,Zbn,tv,tsub,tattr,wtg,Zb5,Zda,Zd6,Zb1,Zby,Zej,Zcr,c_lt,c_le,c_gt,c_ge,c_eq,c_ne,Zcf,Zdn,c_in,Zdm,Zai,Zeb,Zc0,Zax,Zb0,Zay,Zbt,Zaj,Zal,Za4]
  simp
  refine Zf4 G U hk ?_
  cases hn:Zds v with
  | false =>
    have:Zbz B v=false:=by cases v <;> first | rfl | (simp only [Zds] at hn;simp [Zbz,hn])
    rw [this] at q
    simpa [v_0,Zah,Zae,Zau,Zbq,Zbb,x_ao,Zap,Za1,Zar,Zav,Za0,Zam,Zak,x_bm,Zbo,Zaw,Zbc,Zao,Zaf,Zac,Zba,Zaz,Zbv,Zbs,Zbj,Zbn,tv,tsub,tattr,wtg,Zb5,Zda,Zd6,Zb1,Zby,Zej,Zcr,c_lt,c_le,c_gt,c_ge,c_eq,c_ne,Zcf,Zdn,c_in,Zdm,Zai,Zeb,Zc0,Zax,Zb0,Zay,Zbt,Zaj,Zal,Za4] using q
  | true =>
    cases v with
    | str k =>
      simp only [Zds] at hn
      simp [v_0,Zah,Zae,Zau,Zbq,Zbb,x_ao,Zap,Za1,Zar,Zav,Za0,Zam,Zak,x_bm,Zbo,Zaw,Zbc,Zao,Zaf,Zac,Zba,Zaz,Zbv,Zbs,Zbj,Zbn,tv,tsub,tattr,wtg,Zb5,Zda,Zd6,Zb1,Zby,Zej,Zcr,c_lt,c_le,c_gt,c_ge,c_eq,c_ne,Zcf,Zdn,c_in,Zdm,Zai,Zeb,Zc0]
      refine Zcs hA ib rfl (Zqu ib ?_)
      cases hh:hs B.free k with
      | true=>simp [Zbz,hn,hh,Zai] at q ⊢;exact q
      | false=>simp [Zbz,hn,hh,Zai,Za4] at q ⊢;exact q
    | _=>cases hn
end
end Mine
end
section
open PySem PySem.W PyProof.Rows PySem.Spec PySem.SeqAt PySem.Calls
namespace Mine
noncomputable def Zbi:AV→Str
  | .str k=>k
  | _=>default
noncomputable def Zfq:AV→Int
  | .int i=>i
  | _=>0
noncomputable def Zny (B:Bk) (v:AV):Except String Bk :=
  if Zds v then (if hs B.free (Zbi v) then .error "Taken" else .ok { B with free:=pt B.free (Zbi v) 0,aside:=pt B.aside (Zbi v) 0 }) else .error "NoName"
noncomputable def Zcc (B:Bk) (v:AV):Int:=(lk B.free (Zbi v)).getD 0
noncomputable def Zjq (B:Bk) (v:AV):Int:=(lk B.aside (Zbi v)).getD 0
noncomputable def putQ (B:Bk) (v a:AV):Except String Bk :=
  if Zbz B v then (if Zcj a then .ok { B with free:=pt B.free (Zbi v) (Zcc B v + Zfq a) } else .error "NoAmount") else .error "NoPurse"
noncomputable def Zjv (B:Bk) (v a:AV):Except String Bk :=
  if Zbz B v then (if Zcj a then (if Zcc B v < Zfq a then .error "TooLittle" else .ok { B with free:=pt B.free (Zbi v) (Zcc B v - Zfq a) }) else .error "NoAmount") else .error "NoPurse"
theorem Zfj {v:AV} (h:Zds v=true):v = .str (Zbi v):=by cases v <;> first | rfl | cases h
theorem Zbl {B:Bk} {v:AV} (h:Zbz B v=true):v = .str (Zbi v)∧hs B.free (Zbi v)=true:=by
  cases v with
  | str k=>simp only [Zbz,Bool.and_eq_true] at h;exact ⟨rfl,h.2⟩
  | _=>cases h
theorem Zga {v:AV} (h:Zcj v=true):v = .int (Zfq v):=by cases v <;> first | rfl | cases h
theorem Zep {B:Bk} {v:AV} (h:Zbz B v=true):lk B.free (Zbi v)=some (Zcc B v):=Zgg (Zbl h).2
noncomputable def Bk.Sz (B:Bk):Prop:=B.free.length≤sizeLine∧B.aside.length≤sizeLine
noncomputable def Ends (r:Except String Bk) (q:Bk→Prop) (e:String→Prop):Prop :=
  match r with
  | .ok B=>q B
  | .error cl=>e cl
section
variable {c:Cx} {P:Pg} (G:Gd c P) (U:HasA P) {n:Nat} {md:Bool} {Q:AV→Zaa→Prop} {E:String→Zaa→Prop} {H:Zaa} {o:Addr→Option Role} {b f s p:Addr} {as:List Addr} {B:Bk}
section
variable {g:Gx} {V:VV} {QN:VV→Zaa→Prop}
theorem Zhg {i j:Nat} {k:Str} {x:Int} (hP:g.c.P.attrs=BK.attrs) (ib:IsBook o H b f s p as B) (hl:B.free.length≤sizeLine) (hV:V[i]? = some (some (.ref b))) (hj:V[j]? = some (some (.str k)))
    (q:∀ H',IsBook o H' b f s p as { B with free:=pt B.free k x }→Fr1 o H o H'→QN V H'):wpT g (.sub (.attr (.var i) "free") (.var j)) (.int x) V QN E H:=by
  dsimp only [tsub]
  refine Zcs hP ib hV ?_
  obtain ⟨ep,hf⟩:=ib.hf
  simp only [Zae,hj,hf]
  refine ⟨by rw [Ziy];exact hl,fun ep'=>?_⟩
  rw [Zig]
  exact q _ (ib.setFree ep' _) (Zi3 (by rw [ib.of];simp))
theorem Zja {i j:Nat} {k:Str} {x:Int} (hP:g.c.P.attrs=BK.attrs) (ib:IsBook o H b f s p as B) (hl:B.aside.length≤sizeLine) (hV:V[i]? = some (some (.ref b))) (hj:V[j]? = some (some (.str k)))
    (q:∀ H',IsBook o H' b f s p as { B with aside:=pt B.aside k x }→Fr1 o H o H'→QN V H'):wpT g (.sub (.attr (.var i) "aside") (.var j)) (.int x) V QN E H:=by
  dsimp only [tsub]
  refine Zd7 hP ib hV ?_
  obtain ⟨ep,hf⟩:=ib.hs
  simp only [Zae,hj,hf]
  refine ⟨by rw [Ziy];exact hl,fun ep'=>?_⟩
  rw [Zig]
  exact q _ (ib.setAside ep' _) (Zi3 (by rw [ib.os];simp))
end
include G U
theorem Zsw {v:AV} (ib:IsBook o H b f s p as B) (hk:Kn H v) (hz:B.Sz) (q:Ends (Zny B v) (fun B'=>∀ H',IsBook o H' b f s p as B'→Fr1 o H o H'→Q .none H') (fun cl=>E cl H)):CallOK c (n + 3) true "Book.open_purse" [.ref b,v] Q E H:=by
  refine G.call (F:=BK.f_Book_open_purse) U.open_purse rfl ?_
  have hA:c.P.attrs=BK.attrs:=by rw [G.hP,U.attrs]
  show wpSs _ _ _ _ _ [some (.ref b),some v] _
  refine w_st fun K nx=>?_
  dsimp only [Zal,Zam,Zac,Zae]
  show CallOK _ _ _ _ [v] _ _ _
  refine Zlx G U hk ?_
  unfold Zny at q
  cases hn:Zds v with
  | false=>rw [hn] at q;exact q
  | true =>
    obtain ⟨k,rfl⟩:∃ k,v = .str k:=⟨_,Zfj hn⟩
    rw [hn] at q
    refine nx _ _ ?_
    refine w_st fun K nx=>?_
    dsimp only [Zay,Zap,Zae]
    refine Zcs hA ib rfl ?_
    dsimp only [c_in]
    refine Zqu ib ?_
    replace q:Ends (if hs B.free k=true then .error "Taken" else .ok { B with free:=pt B.free k 0,aside:=pt B.aside k 0 }) (fun B'=>∀ H',IsBook o H' b f s p as B'→Fr1 o H o H'→Q .none H') (fun cl=>E cl H):=q
    cases hh:hs B.free k with
    | true=>rw [hh] at q;exact ⟨rfl,q⟩
    | false =>
      rw [hh] at q
      refine nx _ _ ?_
      refine w_st fun K nx=>?_
      dsimp only [Zaj,Zah]
      refine Zhg (k:=k) hA ib hz.1 rfl rfl fun H1 ib1 f1=>nx _ _ ?_
      refine w_st fun K nx=>?_
      dsimp only [Zaj,Zah]
      exact Zja (k:=k) hA ib1 hz.2 rfl rfl fun H2 ib2 f2=>nx _ _ (q H2 ib2 (f1.trans f2))
theorem Zv3 {v a:AV} (hput:P.fns.lookup "Book.put" = some BK.f_Book_put) (ib:IsBook o H b f s p as B) (hk:Kn H v) (hka:Kn H a) (hz:B.Sz) (q:Ends (putQ B v a) (fun B'=>∀ H',IsBook o H' b f s p as B'→Fr1 o H o H'→Q .none H') (fun cl=>E cl H)):CallOK c (n + 3) true "Book.put" [.ref b,v,a] Q E H:=by
  refine G.call (F:=BK.f_Book_put) hput rfl ?_
  have hA:c.P.attrs=BK.attrs:=by rw [G.hP,U.attrs]
  have hM:c.P.meths=BK.meths:=by rw [G.hP,U.meths]
  show wpSs _ _ _ _ _ [some (.ref b),some v,some a] _
  refine w_st fun K nx=>?_
  dsimp only [Zal]
  refine Zbh hM (by decide) (by decide) ib rfl ?_
  dsimp only [Zac,Zae]
  show CallOK _ _ _ _ [.ref b,v] _ _ _
  refine Zcb G U ib hk ?_
  unfold putQ at q
  cases hp:Zbz B v with
  | false=>rw [hp] at q;exact q
  | true =>
    have hf:=Zep hp
    obtain ⟨k,rfl⟩:∃ k,v = .str k:=⟨_,(Zbl hp).1⟩
    rw [hp] at q
    replace q:Ends (if Zcj a=true then .ok { B with free:=pt B.free k (Zcc B (.str k) + Zfq a) } else .error "NoAmount") (fun B'=>∀ H',IsBook o H' b f s p as B'→Fr1 o H o H'→Q .none H') (fun cl=>E cl H):=q
    refine nx _ _ ?_
    refine w_st fun K nx=>?_
    dsimp only [Zaj,Zau,Zar]
    refine Zcs hA ib rfl ?_
    dsimp only [Zae]
    refine Zc5 ib hf ?_
    dsimp only [Zam,Zac,Zae]
    show CallOK _ _ _ _ [a] _ _ _
    refine Zh2 G U hka ?_
    cases ha:Zcj a with
    | false=>rw [ha] at q;exact q
    | true =>
      obtain ⟨i,rfl⟩:∃ i,a = .int i:=⟨_,Zga ha⟩
      rw [ha] at q
      rw [if_pos rfl,Zb5]
      exact Zhg (k:=k) hA ib hz.1 rfl rfl fun H1 ib1 f1=>nx _ _ (q H1 ib1 f1)
theorem Zsd {v a:AV} (htake:P.fns.lookup "Book.take" = some BK.f_Book_take) (ib:IsBook o H b f s p as B) (hk:Kn H v) (hka:Kn H a) (hz:B.Sz) (q:Ends (Zjv B v a) (fun B'=>∀ H',IsBook o H' b f s p as B'→Fr1 o H o H'→Q .none H') (fun cl=>E cl H)):CallOK c (n + 3) true "Book.take" [.ref b,v,a] Q E H:=by
  refine G.call (F:=BK.f_Book_take) htake rfl ?_
  have hA:c.P.attrs=BK.attrs:=by rw [G.hP,U.attrs]
  have hM:c.P.meths=BK.meths:=by rw [G.hP,U.meths]
  show wpSs _ _ _ _ _ [some (.ref b),some v,some a] _
  refine w_st fun K nx=>?_
  dsimp only [Zal]
  refine Zbh hM (by decide) (by decide) ib rfl ?_
  dsimp only [Zac,Zae]
  show CallOK _ _ _ _ [.ref b,v] _ _ _
  refine Zcb G U ib hk ?_
  unfold Zjv at q
  cases hp:Zbz B v with
  | false=>rw [hp] at q;exact q
  | true =>
    have hf:=Zep hp
    obtain ⟨k,rfl⟩:∃ k,v = .str k:=⟨_,(Zbl hp).1⟩
    rw [hp] at q
    replace q:Ends (if Zcj a=true then (if Zcc B (.str k) < Zfq a then .error "TooLittle" else .ok { B with free:=pt B.free k (Zcc B (.str k) - Zfq a) }) else .error "NoAmount") (fun B'=>∀ H',IsBook o H' b f s p as B'→Fr1 o H o H'→Q .none H') (fun cl=>E cl H):=q
    refine nx _ _ ?_
    refine w_st fun K nx=>?_
    dsimp only [Zal,Zam,Zac,Zae]
    show CallOK _ _ _ _ [a] _ _ _
    refine Zh2 G U hka ?_
    cases ha:Zcj a with
    | false=>rw [ha] at q;exact q
    | true =>
      obtain ⟨i,rfl⟩:∃ i,a = .int i:=⟨_,Zga ha⟩
      rw [ha] at q
      replace q:Ends (if Zcc B (.str k) < i then .error "TooLittle" else .ok { B with free:=pt B.free k (Zcc B (.str k) - i) }) (fun B'=>∀ H',IsBook o H' b f s p as B'→Fr1 o H o H'→Q .none H') (fun cl=>E cl H):=q
      refine nx _ _ ?_
      refine w_st fun K nx=>?_
      dsimp only [Zay,Zap,Zar]
      refine Zcs hA ib rfl ?_
      dsimp only [Zae]
      refine Zc5 ib hf ?_
      show wcmp .Lt (.int (Zcc B (.str k))) (.int i) _ _
      dsimp only [c_lt,Zai]
      by_cases hlt:Zcc B (.str k) < i
      · rw [if_pos hlt] at q
        rw [decide_eq_true hlt];exact ⟨rfl,q⟩
      · rw [if_neg hlt] at q
        rw [decide_eq_false hlt]
        refine nx _ _ ?_
        refine w_st fun K nx=>?_
        dsimp only [Zaj,Zau,Zar]
        refine Zcs hA ib rfl ?_
        dsimp only [Zae]
        refine Zc5 ib hf ?_
        show wbin .Sub (.int (Zcc B (.str k))) (.int i) _ _
        rw [Zda]
        exact Zhg (k:=k) hA ib hz.1 rfl rfl fun H1 ib1 f1=>nx _ _ (q H1 ib1 f1)
theorem Zoh {v:AV} (ib:IsBook o H b f s p as B) (hk:Kn H v) (q:if Zbz B v then Q (.int (Zcc B v)) H else E "NoPurse" H):CallOK c (n + 3) true "Book.free_of" [.ref b,v] Q E H:=by
  refine G.call (F:=BK.f_Book_free_of) U.free_of rfl ?_
  have hA:c.P.attrs=BK.attrs:=by rw [G.hP,U.attrs]
  have hM:c.P.meths=BK.meths:=by rw [G.hP,U.meths]
  dsimp only [BK.f_Book_free_of,Zgp,v_0,Zah,Zae,Zau,Zbq,Zbb,x_ao,Zap,Za1,Zar,Zav,Za0,Zam,Zak,x_bm,Zbo,Zaw,Zbc,Zao,Zaf,Zac,Zba,Zaz,Zbv,Zbs,Zbj,Zbn,tv,wtg,Zb5,Zda,Zd6,Zb1,Zby,Zej,Zcr,c_lt,c_le,c_gt,c_ge,c_eq,c_ne,Zcf,Zdn,c_in,Zdm,Zai,Zeb,Zc0,Zax,Zb0,Zay,Zbt,Zaj,Zal,Za4]
  refine Zbh hM (by decide) (by decide) ib rfl ?_
  dsimp only [v_0,Zah,Zae,Zau,Zbq,Zbb,x_ao,Zap,Za1,Zar,Zav,Za0,Zam,Zak,x_bm,Zbo,Zaw,Zbc,Zao,Zaf,Zac,Zba,Zaz,Zbv,Zbs,Zbj,Zbn,tv,wtg,Zb5,Zda,Zd6,Zb1,Zby,Zej,Zcr,c_lt,c_le,c_gt,c_ge,c_eq,c_ne,Zcf,Zdn,c_in,Zdm,Zai,Zeb,Zc0]
  refine Zcb G U ib hk ?_
  cases hp:Zbz B v with
  | false=>simp [hp] at q ⊢;exact q
  | true =>
    have hf:=Zep hp
    obtain ⟨k,rfl⟩:∃ k,v = .str k:=⟨_,(Zbl hp).1⟩
    simp only [hp,if_true] at q ⊢
    exact Zcs hA ib rfl (Zc5 ib hf q)
end
end Mine
end
section
open PySem PySem.W PyProof.Rows PySem.Spec PySem.SeqAt PySem.Calls
namespace Mine
theorem Zgo {H:Zaa} {a b:Addr} {o:AObj} (h:up H a o b=none):a≠b:=fun e=>by subst e;rw [Zad] at h;cases h
theorem st_a {g:Gx} {V:VV} {K:VV→Zaa→Prop} {E:String→Zaa→Prop} {H:Zaa} {i:Nat} {n cl:String} {a:Addr} {es:List (String×AV)} {x:AV} (hV:V[i]? = some (some (.ref a))) (hP:g.c.P.attrs.contains (cl,n)=true) (h:H a=some (.inst cl es)) (hl:es.length≤100) (q:K V (up H a (.inst cl (putA es n x)))):wpT g (.attr (.var i) n) x V K E H:=by
  (dsimp only [tattr,Zae];rw [hV])
  show match H a with | some (.inst cl es)=>_ | _=>False
  rw [h];exact ⟨hP,hl,q⟩
theorem Ze9 {H:Zaa} {a:Addr} {x:AObj} (h:H a=some x):up H a x=H:=by
  funext b
  by_cases e:b=a
  · subst e;rw [Zad,h]
  · rw [Zab e]
section
variable {c:Cx} {P:Pg} (G:Gd c P) (U:HasA P) {n:Nat} {md:Bool} {Q:AV→Zaa→Prop} {E:String→Zaa→Prop} {H:Zaa} {b:Addr} {B:Bk}
theorem Kn.open {H₂:Zaa} {v:AV} {o:Addr→Option Role} (hb:H b=some (.book B)) (hold:∀ a x,H a=some x→a≠b→H₂ a=some x∧o a=none) (k:Kn H v):Kn H₂ v:=by
  obtain ⟨⟨t,ht⟩,hl⟩:=k
  refine ⟨⟨t,?_⟩,hl⟩
  cases v with
  | ref a =>
    simp only [Zgm] at ht ⊢
    cases e:H a with
    | none=>rw [e] at ht;cases ht
    | some x =>
      have:a≠b:=fun q=>by subst q;rw [hb] at e;cases e;rw [hb] at ht;cases ht
      rw [(hold a x e this).1];rw [e] at ht;exact ht
  | _=>exact ht
theorem IsBook.fresh {o:Addr→Option Role} {H₂:Zaa} {f s p z:Addr} {as:List Addr} (ib:IsBook o H₂ b f s p as B) (hz:H₂ z=none) (y:AObj):IsBook (fun a=>if a=z then none else o a) (up H₂ z y) b f s p as B∧Fr1 o H₂ (fun a=>if a=z then none else o a) (up H₂ z y) :=
  ⟨ib.congr fun a r x _ ho hx _=>by
      have:a≠z:=fun q=>by subst q;rw [hz] at hx;cases hx
      exact ⟨by simp only [this,if_false];exact ho,by rw [Zab this];exact hx⟩,
    ⟨fun a x h k=>by
      have:a≠z:=fun q=>by subst q;rw [hz] at h;cases h
      exact ⟨by rw [Zab this];exact h,by simp only [this,if_false];exact k⟩,fun _ h=>Zde h⟩⟩
include G U
theorem Zyg {v:AV} (hb:H b=some (.book B)) (hk:Kn H v) (hz:B.Sz) (q:Ends (Zny B v) (fun B'=>Q .none (up H b (.book B'))) (fun cl=>E cl H)):CallOK c (n + 3) true "Book.open_purse" [.ref b,v] Q E H:=by
  refine Zb3 hb fun H₂ o f s p as ib hold=>Zsw G U ib (hk.open hb hold) hz ?_
  revert q
  cases Zny B v with
  | ok B'=>exact fun q H' ib' fr=>⟨o,f,s,p,as,B',ib',fr,.inl ⟨(fun _ h=>by cases h),q⟩⟩
  | error cl=>exact fun q=>⟨o,f,s,p,as,B,ib,.refl,by rw [Ze9 hb];exact q⟩
theorem Zx9 {v a:AV} (hput:P.fns.lookup "Book.put" = some BK.f_Book_put) (hb:H b=some (.book B)) (hk:Kn H v) (hka:Kn H a) (hz:B.Sz) (q:Ends (putQ B v a) (fun B'=>Q .none (up H b (.book B'))) (fun cl=>E cl H)):CallOK c (n + 3) true "Book.put" [.ref b,v,a] Q E H:=by
  refine Zb3 hb fun H₂ o f s p as ib hold=>Zv3 G U hput ib (hk.open hb hold) (hka.open hb hold) hz ?_
  revert q
  cases putQ B v a with
  | ok B'=>exact fun q H' ib' fr=>⟨o,f,s,p,as,B',ib',fr,.inl ⟨(fun _ h=>by cases h),q⟩⟩
  | error cl=>exact fun q=>⟨o,f,s,p,as,B,ib,.refl,by rw [Ze9 hb];exact q⟩
theorem Zxn {v a:AV} (htake:P.fns.lookup "Book.take" = some BK.f_Book_take) (hb:H b=some (.book B)) (hk:Kn H v) (hka:Kn H a) (hz:B.Sz) (q:Ends (Zjv B v a) (fun B'=>Q .none (up H b (.book B'))) (fun cl=>E cl H)):CallOK c (n + 3) true "Book.take" [.ref b,v,a] Q E H:=by
  refine Zb3 hb fun H₂ o f s p as ib hold=>Zsd G U htake ib (hk.open hb hold) (hka.open hb hold) hz ?_
  revert q
  cases Zjv B v a with
  | ok B'=>exact fun q H' ib' fr=>⟨o,f,s,p,as,B',ib',fr,.inl ⟨(fun _ h=>by cases h),q⟩⟩
  | error cl=>exact fun q=>⟨o,f,s,p,as,B,ib,.refl,by rw [Ze9 hb];exact q⟩
theorem Ztq {v:AV} (hb:H b=some (.book B)) (hk:Kn H v) (q:if Zbz B v then Q (.int (Zcc B v)) H else E "NoPurse" H):CallOK c (n + 3) true "Book.free_of" [.ref b,v] Q E H:=by
  refine Zb3 hb fun H₂ o f s p as ib hold=>Zoh G U ib (hk.open hb hold) ?_
  revert q
  cases Zbz B v with
  | true=>exact fun q=>⟨o,f,s,p,as,B,ib,.refl,.inl ⟨(fun _ h=>by cases h),by rw [Ze9 hb];exact q⟩⟩
  | false=>exact fun q=>⟨o,f,s,p,as,B,ib,.refl,by rw [Ze9 hb];exact q⟩
theorem Ze2 {H₂:Zaa} {o:Addr→Option Role} {f s p z:Addr} {as:List Addr} (hb:H b=some (.book B)) (ib:IsBook o H₂ b f s p as B) (hold:∀ a x,H a=some x→a≠b→H₂ a=some x∧o a=none) (hz:H₂ z=none):H z=none:=by
  cases e:H z with
  | none=>rfl
  | some x =>
    by_cases q:z=b
    · subst q;rw [ib.hb] at hz;cases hz
    · rw [(hold z x e q).1] at hz;cases hz
omit G U in
theorem Zs0 {g:Gx} {V:VV} (hP:g.c=c) (G:Gd g.c P) (U:HasA P) (hn:∃ m,g.n=m + 1) (q:∀ a,H a=none→Q (.ref a) (up H a (.book ⟨0,[],[],[]⟩))):wpX g (.new "Book" []) V Q E H:=by
  obtain ⟨m,hm⟩:=hn
  (dsimp only [Zcl,Zaf];rw [hm])
  intro a ha
  refine CallOK.post (Q:=fun r H'=>r = .none∧∃ o f s p,IsBook o H' a f s p [] ⟨0,[],[],[]⟩∧∀ x y,x≠a→H x=some y→H' x=some y∧o x=none) (E:=fun _ _=>False) ?_ (fun r H' h=>?_) (fun _ _ h=>h.elim)
  · refine G.call (F:=BK.f_Book___init__) U.init rfl ?_
    have hA:g.c.P.attrs=BK.attrs:=by rw [G.hP,U.attrs]
    have hC:∀ n,BK.attrs.contains ("Book",n)=true→g.c.P.attrs.contains ("Book",n)=true:=fun n h=>by rw [hA];exact h
    refine w_st fun K nx=>?_
    dsimp only [Zaj,Zah]
    refine st_a rfl (hC _ rfl) Zad (by decide) (nx _ _ ?_)
    refine w_st fun K nx=>?_
    dsimp only [Zaj,Zao]
    intro f hf
    have fa:a≠f:=Zgo hf
    refine st_a rfl (hC _ rfl) (by rw [Zab fa,Zad]) (by decide) (nx _ _ ?_)
    refine w_st fun K nx=>?_
    dsimp only [Zaj,Zao]
    intro s hs
    have sa:a≠s:=Zgo hs
    have sf:f≠s:=Zgo (by rw [Zab sa.symm] at hs;exact hs)
    refine st_a rfl (hC _ rfl) (by rw [Zab sa,Zad]) (by exact (show 2≤100 by decide)) (nx _ _ ?_)
    refine w_st fun K nx=>?_
    dsimp only [Zaj,Zao]
    intro p hp
    have pa:a≠p:=Zgo hp
    have ps:s≠p:=Zgo (by rw [Zab pa.symm] at hp;exact hp)
    have pf:f≠p:=Zgo (by rw [Zab pa.symm,Zab ps.symm,Zab pa.symm] at hp;exact hp)
    refine st_a rfl (hC _ rfl) (by rw [Zab pa,Zad]) (by exact (show 3≤100 by decide)) (nx _ _ ?_)
    refine ⟨rfl,fun x=>if x=a then some .self else if x=f then some .free else if x=s then some .aside else if x=p then some .pacts else none,f,s,p,⟨by simp,by simp [fa.symm],by simp [sa.symm,sf.symm],by simp [pa.symm,pf.symm,ps.symm],Zad,⟨0,?_⟩,⟨0,?_⟩,⟨0,?_⟩,trivial⟩,fun x y hx hy=>?_⟩
    · rw [Zab fa.symm,Zab pf,Zab fa.symm,Zab sf,Zab fa.symm,Zad];rfl
    · rw [Zab sa.symm,Zab ps,Zab sa.symm,Zad];rfl
    · rw [Zab pa.symm,Zad];rfl
    · have xf:x≠f:=fun e=>by subst e;rw [Zab hx,Zab hx,hy] at hf;cases hf
      have xs:x≠s:=fun e=>by subst e;rw [Zab hx,Zab xf,Zab hx,Zab hx,hy] at hs;cases hs
      have xp:x≠p:=fun e=>by subst e;rw [Zab hx,Zab xs,Zab hx,Zab xf,Zab hx,Zab hx,hy] at hp;cases hp
      exact ⟨by rw [Zab hx,Zab xp,Zab hx,Zab xs,Zab hx,Zab xf,Zab hx,Zab hx,hy],by simp [hx,xf,xs,xp]⟩
  · obtain ⟨rfl,o,f,s,p,ib,hold⟩:=h
    refine ⟨_,fun H₁ r=>r.pack ib fun x y e=>?_,rfl,q a ha⟩
    by_cases w:x=a
    · subst w;rw [Zad] at e;cases e;exact .inl ⟨rfl,rfl⟩
    · rw [Zab w] at e
      exact .inr ⟨w,(hold x y w e).2,(hold x y w e).1⟩
end
end Mine
end
section
open PySem PySem.W PyProof.Rows PySem.Spec PySem.SeqAt PySem.Calls
namespace Mine
noncomputable def cell (ns:List Int) (k:Nat):Int:=(ns[k]?).getD 0
theorem Zh1 {c:Cx} {P:Pg} (G:Gd c P) (hf:P.fns.lookup "_law_cell_at" = some BK.f__law_cell_at) {n:Nat} {md:Bool} {Q:AV→Zaa→Prop} {E:String→Zaa→Prop} {H:Zaa} {sp:Addr} {ns:List Int} {k:Int} (hk:0≤k) (hs:H sp=some (.script ns)) (hl:ns.length < 2 ^ 62)
    (q:Q (.int (cell ns k.toNat)) H):CallOK c (n + 1) md "_law_cell_at" [.ref sp,.int k] Q E H:=by
  refine G.call (F:=BK.f__law_cell_at) hf rfl ?_
  simp [BK.f__law_cell_at,Zj9,Zho,Zgx,Zgc,Zf0,Zhn,hs,hl,Zgp,Zfb,Zhb,Zmh,v_0,Zah,Zae,Zau,Zbq,Zbb,x_ao,Zap,Za1,Zar,Zav,Za0,Zam,Zak,x_bm,Zbo,Zaw,Zbc,Zao,Zaf,Zac,Zba,Zaz,Zbv,Zbs,Zbj,Zbn,tv,tsub,tattr,wtg,Zb5,Zda,Zd6,Zb1,Zby,Zej,Zcr,c_lt,c_le,c_gt,c_ge,c_eq,c_ne,Zcf,Zdn,c_in,Zdm,Zai,Zeb,Zc0,Zax,Zb0,Zay,Zbt,Zaj,Zal,Za4]
  obtain ⟨j,rfl⟩:=Int.eq_ofNat_of_zero_le hk
  by_cases h:j < ns.length
  · simp [h]
    refine ⟨by lia,?_⟩
    simpa [cell,h] using q
  · simp [h]
    simpa [cell,h] using q
theorem Za6 {x m:Int} (h:0 < m):0≤x.fmod m:=by rw [Int.fmod_eq_emod_of_nonneg _ (by omega)];exact Int.emod_nonneg _ (by omega)
theorem Zbe {x m:Int} (h:0 < m):x.fmod m < m:=by rw [Int.fmod_eq_emod_of_nonneg _ (by omega)];exact Int.emod_lt_of_pos _ h
theorem Zfw {H:Zaa} {a b:Addr} {o o':AObj} (h:H b=some o') (k:H a=none):up H a o b=some o':=by
  rw [Zab (fun z=>by rw [z,k] at h;cases h)];exact h
noncomputable def Ext (H H':Zaa):Prop:=∀ a o,H a=some o→H' a=some o
theorem Ext.refl {H:Zaa}:Ext H H:=fun _ _ h=>h
theorem Ext.trans {H H' H'':Zaa} (x:Ext H H') (y:Ext H' H''):Ext H H'':=fun a o h=>y a o (x a o h)
theorem Ext.none {H H':Zaa} {z:Addr} (x:Ext H H') (h:H' z=none):H z=none:=by
  cases q:H z with
  | none=>rfl
  | some o=>rw [x z o q] at h;cases h
theorem Ext.own {H H':Zaa} {z:Addr} {o:AObj} (x:Ext H H') (h:H z=Option.none):Ext H (up H' z o):=fun a o' e=>by
  rw [Zab (fun q=>by rw [q,h] at e;cases e)];exact x a o' e
theorem Ext.new {H H':Zaa} {z:Addr} {o:AObj} (x:Ext H H') (h:H' z=Option.none):Ext H (up H' z o):=x.own (x.none h)
theorem Zc6 {H:Zaa} {a b:Addr} {o:AObj} (h:H a=some o) (k:H b=none):a≠b:=fun q=>by rw [q,k] at h;cases h
noncomputable def txs (l:List Str):List AV:=l.map AV.str
theorem Zan {l:List Str}:(txs l).length=l.length:=by simp [txs]
theorem Zi4 {l:List Str} {k:Nat} {x:AV} (h:(txs l)[k]? = some x):∃ s,x = .str s∧l[k]? = some s:=by
  unfold txs at h
  rw [List.getElem?_map,Option.map_eq_some_iff] at h
  obtain ⟨s,h1,h2⟩:=h
  exact ⟨s,h2.symm,h1⟩
theorem Zd1 {l:List Str} {s:Str}:txs l ++ [.str s]=txs (l ++ [s]):=by simp [txs]
theorem Za5 {α:Type} {l:List α} {k:Nat} {x:α} (h:l[k]? = some x):l.take (k + 1)=l.take k ++ [x]:=by
  rw [List.take_add_one,h];rfl
theorem Zif {H:Zaa}:∀ {l:List Str},RDs H (txs l) (l.map PyData.str)
  | []=>.nil
  | s :: r=>.cons (.str s) Zif
theorem Zg1:∀ {l:List Str},Zd8 (l.map PyData.str)=true
  | []=>rfl
  | s :: r=>by simp [Zd8,Zkr,Zg1 (l:=r)]
theorem Zkv:∀ {l:List Str},PyData.depthAll (l.map PyData.str)=0
  | []=>rfl
  | s :: r=>by simp [PyData.depthAll,PyData.depth,Zkv (l:=r)]
theorem Zus {l:List Str}:okD (.list (l.map PyData.str)):=⟨by simp [Zkr,Zg1],by simp [PyData.depth,Zkv]⟩
theorem Zut {s:Str}:okD (.str s):=⟨rfl,Nat.zero_le _⟩
theorem Zra:∀ {l l':List Str},PyData.eqvAll (l.map PyData.str) (l'.map PyData.str)=decide (l=l')
  | [],[]=>rfl
  | [],_ :: _=>rfl
  | _ :: _,[]=>rfl
  | s :: r,s' :: r'=>by
    simp only [List.map_cons,Zzs,Zzq,Zra (l:=r) (l':=r'),List.cons.injEq]
    by_cases h:s=s' <;> simp [h]
theorem Zxf {l:List Str} {s:Str}:((l.map PyData.str).any fun y=>PyData.eqv y (.str s))=decide (s∈l):=by
  induction l with
  | nil=>rfl
  | cons t r ih =>
    simp only [List.map_cons,List.any_cons,ih,Zzq,List.mem_cons]
    by_cases h:s=t
    · simp [h]
    · have:t≠s:=fun z=>h z.symm
      simp [h,this]
section
variable {Q:AV→Zaa→Prop} {H:Zaa}
theorem Zi2 {no:Bool} {x:Str} {a:Addr} {l:List Str} (h:H a=some (.list (txs l))) (q:Q (.bool (decide (x∈l) != no)) H):win no (.str x) (.ref a) Q H:=by
  simp only [Zfr,Zl0,h]
  refine ⟨.str x,l.map PyData.str,.str x,Zif,Zut,Zg1,?_⟩
  rw [Zxf,← Zn5];exact q
theorem Zr5 {no:Bool} {x:Str} {a:Addr} {ep:Nat} {es:List (Str×AV)} (h:H a=some (.dict ep es)) (q:Q (.bool ((Zbx es x).isSome != no)) H):win no (.str x) (.ref a) Q H:=by
  simp only [Zfr,Zl0,h,← Zn5];exact q
theorem Zvb {ne:Bool} {a b:Addr} {l l':List Str} (h:H a=some (.list (txs l))) (h':H b=some (.list (txs l'))) (q:Q (.bool (decide (l=l') != ne)) H):weq ne (.ref a) (.ref b) Q H:=by
  simp only [weq,h]
  refine ⟨.list (l.map PyData.str),.list (l'.map PyData.str),.list h Zif,.list h' Zif,Zus,Zus,?_⟩
  rw [Z02,Zra,← Zn5];exact q
end
theorem Z04 {Q:AV→Zaa→Prop} {H:Zaa} {u v:AV}:wcmp .Eq u v Q H=weq false u v Q H:=rfl
theorem Zzx {Q:AV→Zaa→Prop} {H:Zaa} {u v:AV}:wcmp .NotEq u v Q H=weq true u v Q H:=rfl
section
variable {Q:AV→Zaa→Prop} {H:Zaa}
theorem Zps {a:Addr} {xs:List AV} (h:H a=some (.list xs)) (hl:xs.length≤100000) (q:Q (.int xs.length) H):Zdz md .len [.ref a] Q H:=by
  simp only [Zj9,Zho,Zgx,Zgc,Zf0,Zhn,h];exact ⟨by omega,q⟩
theorem Zmm {a:Addr} {xs:List AV} (h:H a=some (.list xs)) (hl:xs.length≤100000) (q:∀ z,H z=none→Q (.ref z) (up H z (.list xs))):Zdz md .list [.ref a] Q H:=by
  simp only [Zj9,Zho,Zgx,Zgc,Zf0,Zhn,h];exact ⟨by simp [sizeLine];lia,q⟩
theorem Zha {a:Addr} {l:List Str} {k:Nat} {s:Str} (h:H a=some (.list (txs l))) (hk:l[k]? = some s) (hl:l.length≤1000) (q:Q (.str s) H):wsub (.ref a) (.int k) Q H:=by
  have hlt:k < l.length:=(List.getElem?_eq_some_iff.mp hk).1
  simp only [Zfb,Zhb,Zmh,h]
  refine ⟨k,.str s,by simp [Zfy,hlt,Zan],by lia,by lia,by simp [txs,hk],q⟩
theorem Zmg {a:Addr} {l:List Str} {i:Int} (h:H a=some (.list (txs l))) (h0:0≤i) (h1:i < l.length) (hl:l.length≤1000) (q:∀ s∈l,Q (.str s) H):wsub (.ref a) (.int i) Q H:=by
  have hlt:i.toNat < l.length:=by lia
  have e:i=((i.toNat:Nat):Int):=by lia
  rw [e]
  exact Zha h (List.getElem?_eq_getElem hlt) hl (q _ (List.getElem_mem hlt))
theorem Zul {a:Addr} {l:List Str} (h:H a=some (.list (txs l))) (hl:l.length≤1000) (q:Q (.int l.length) H):Zdz md .len [.ref a] Q H :=
  Zps h (by rw [Zan];exact Nat.le_trans hl (by decide)) (by rw [Zan];exact q)
theorem Zf1 {a:Addr} {l:List Str} (h:H a=some (.list (txs l))) (hl:l.length≤1000) (q:∀ z,H z=none→Q (.ref z) (up H z (.list (txs l)))):Zdz md .list [.ref a] Q H :=
  Zmm h (by rw [Zan];exact Nat.le_trans hl (by decide)) q
theorem Zc8 {p:Addr} {xs:List AV} {v:AV} (h:H p=some (.list xs)) (hl:xs.length≤100000) (q:Q .none (up H p (.list (xs ++ [v])))):wbm (.ref p) .append [v] Q H:=by
  simp only [Z0v,Zyz,Zyy,Zyw,Zyx,h];exact ⟨by simp [sizeLine];lia,q⟩
end
section
variable {g:Gx} {QN:VV→Zaa→Prop} {QR:AV→Zaa→Prop} {E:String→VV→Zaa→Prop} {V:VV} {H:Zaa}
theorem Zz5 {t:Tg} {it:X} {b:List S}:wpS g (.for t it b) QN QR E V H=(g.md=true∧wpX g it V (fun v H=>WFor QN (fun x nx V H=>wtg t x V H fun V=>wpSs g b nx QR E V H) v V H) (fun cl H=>E cl V H) H):=rfl
end
theorem Zd0 {QN:VV→Zaa→Prop} {stp:AV→(VV→Zaa→Prop)→VV→Zaa→Prop} {v:AV} {V:VV} {H:Zaa} {xs:List AV} (hx:Zas H v=some xs) (J:Nat→VV→Zaa→Prop) (h0:J 0 V H)
    (hs:∀ I:Nat→VV→Zaa→Prop,(∀ k V' H',J k V' H'→I k V' H')→∀ k V' H',J k V' H'→Zdu H H' v∧(k=xs.length→QN V' H')∧∀ x,xs[k]? = some x→stp x (I (k + 1)) V' H'):WFor QN stp v V H :=
  wfor hx J h0 (hs J fun _ _ _ h=>h)
theorem Zg5 {Q:AV→Zaa→Prop} {stp:AV→(Option AV→Zaa→Prop)→Zaa→Prop} {v:AV} {H:Zaa} {xs:List AV} (hx:Zas H v=some xs) (hl:xs.length≤sizeLine) (f:AV→Option AV)
    (hs:∀ x∈xs,∀ H',Ext H H'→∀ nx:Option AV→Zaa→Prop,(∀ H'',Ext H' H''→nx (f x) H'')→stp x nx H')
    (q:∀ a H',Ext H H'→H' a=none→Q (.ref a) (up H' a (.list (xs.filterMap f)))):Zk7 Q stp v H:=by
  refine ⟨xs,hx,hl,fun k acc H'=>Ext H H'∧acc=(xs.take k).filterMap f,⟨.refl,by simp⟩,?_⟩
  rintro k acc H' ⟨hE,rfl⟩
  refine ⟨?_,fun hk a ha=>?_,fun x hxk=>?_⟩
  · cases v with
    | ref a =>
      simp only [Zas] at hx
      simp only [Zdu]
      cases q:H a with
      | none=>rw [q] at hx;cases hx
      | some o=>exact hE a o q
    | _=>trivial
  · have:=q a H' hE ha
    rw [hk,List.take_length];exact this
  · refine hs x (List.mem_of_getElem? hxk) H' hE _ fun H'' hE'=>⟨hE.trans hE',?_⟩
    rw [Za5 hxk,List.filterMap_append]
    cases hf:f x <;> simp [hf]
section
variable {c:Cx} {P:Pg} (G:Gd c P) {n:Nat} {md:Bool} {Q:AV→Zaa→Prop} {E:String→Zaa→Prop} {H:Zaa}
noncomputable def mixed (a b:Int):Int:=(a * 6364136223846793005 + b * 1442695040888963407 + 1013904223).fmod 2305843009213693951
include G in
theorem Zgy (hf:P.fns.lookup "_law_mixed" = some BK.f__law_mixed) {a b:Int} (q:Q (.int (mixed a b)) H):CallOK c (n + 1) md "_law_mixed" [.int a,.int b] Q E H:=by
  refine G.call (F:=BK.f__law_mixed) hf rfl ?_
  simp [BK.f__law_mixed,Zgp,v_0,Zah,Zae,Zau,Zbq,Zbb,x_ao,Zap,Za1,Zar,Zav,Za0,Zam,Zak,x_bm,Zbo,Zaw,Zbc,Zao,Zaf,Zac,Zba,Zaz,Zbv,Zbs,Zbj,Zbn,tv,tsub,tattr,wtg,Zb5,Zda,Zd6,Zb1,Zby,Zej,Zcr,c_lt,c_le,c_gt,c_ge,c_eq,c_ne,Zcf,Zdn,c_in,Zdm,Zai,Zeb,Zc0,Zax,Zb0,Zay,Zbt,Zaj,Zal,Za4]
  exact ⟨IntMulOk.of_right (by decide +kernel),IntMulOk.of_right (by decide +kernel),q⟩
end
noncomputable def Zi1:List S:=[
  .assign (.var 5) (.lit (.str (Str.ofString ""))),
  .for (.var 6) (.prim .range [(.bin .Mod (.bin .FloorDiv (.var 4) (.lit (.int 12))) (.lit (.int 11)))]) [.assign (.var 5) (.bin .Add (.var 5) (.sub (.var 2) (.bin .Mod (.bin .FloorDiv (.var 4) (.lit (.int 300))) (.lit (.int 26))))),
    .assign (.var 4) (.bin .FloorDiv (.var 4) (.lit (.int 26)))],
  .ite (.cmp .Eq (.bin .Mod (.var 1) (.lit (.int 2))) (.lit (.int 1))) [.ret (.bin .Add (.var 3) (.var 5))] [],
  .assign (.var 7) (.bin .Mod (.bin .FloorDiv (.var 1) (.lit (.int 2))) (.bin .Add (.prim .len [(.var 5)]) (.lit (.int 1)))),
  .ret (.bin .Add (.bin .Add (.slice (.var 5) none (some (.var 7)) none) (.var 3)) (.slice (.var 5) (some (.var 7)) none none))]
noncomputable def Zmb (nm:String):Fn:=⟨2,["_law_k","_law_cell","_law_letters",nm,"_law_rest","_law_more","_law_j","_law_at"],
  .assign (.var 2) (.lit (.str (Str.ofString "abcdefghijklmnopqrstuvwxyz"))) ::
  .assign (.var 3) (.bin .Add (.sub (.var 2) (.bin .Mod (.bin .FloorDiv (.var 0) (.lit (.int 26))) (.lit (.int 26)))) (.sub (.var 2) (.bin .Mod (.var 0) (.lit (.int 26))))) ::
  .assign (.var 4) (.call "_law_mixed" [(.var 1),(.lit (.int 0))]) ::
  .ite (.cmp .Eq (.bin .Mod (.var 1) (.lit (.int 2))) (.lit (.int 1))) [.assign (.var 4) (.call "_law_mixed" [(.var 1),(.var 0)]),
    .ite (.ao true [(.cmp .Eq (.bin .Mod (.var 4) (.lit (.int 12))) (.lit (.int 11))),(.cmp .Lt (.var 0) (.lit (.int 26)))]) [.ret (.sub (.var 2) (.var 0))] []] [] ::
  Zi1⟩
noncomputable def chI (i:Int):Nat:=(letters.cps[i.toNat]?).getD 0
noncomputable def Zdo (k:Int):List Nat:=[chI ((k.fdiv 26).fmod 26),chI (k.fmod 26)]
noncomputable def Zdx (r:Int):Nat→List Nat×Int
  | 0=>([],r)
  | j + 1=>((Zdx r j).1 ++ [chI (((Zdx r j).2.fdiv 300).fmod 26)],(Zdx r j).2.fdiv 26)
theorem Zfl (r:Int):∀ j,(Zdx r j).1.length=j
  | 0=>rfl
  | j + 1=>by simp [Zdx,Zfl r j]
noncomputable def Ze8 (k cl:Int):List Nat :=
  if cl.fmod 2=1 then
    let r:=mixed cl k
    if r.fmod 12=11∧k < 26 then [chI k] else Zdo k ++ (Zdx r ((r.fdiv 12).fmod 11).toNat).1
  else
    let r:=mixed cl 0
    let m:=(Zdx r ((r.fdiv 12).fmod 11).toNat).1
    let a:=((cl.fdiv 2).fmod (m.length + 1)).toNat
    m.take a ++ Zdo k ++ m.drop a
noncomputable def word (k cl:Int):Str:=⟨(Ze8 k cl).toArray⟩
theorem Zgh:letters.cps.size=26:=by decide +kernel
theorem Zi7 {Q:AV→Zaa→Prop} {H:Zaa} {i:Int} (h0:0≤i) (h1:i < 26) (q:Q (.str ⟨#[chI i]⟩) H):wsub (.str letters) (.int i) Q H:=by
  have hlt:i.toNat < letters.cps.size:=by rw [Zgh];lia
  refine ⟨h0,by lia,letters.cps[i.toNat],by simp [hlt],?_⟩
  have:chI i=letters.cps[i.toNat]:=by simp [chI,hlt]
  rw [← this];exact q
theorem Zhc {a b:List Nat}:(⟨a.toArray⟩ ++ ⟨b.toArray⟩:Str)=⟨(a ++ b).toArray⟩:=by
  show Str.mk _=Str.mk _
  simp
theorem str_len {a:List Nat}:(⟨a.toArray⟩:Str).length=a.length:=by show a.toArray.size=_;simp
section
variable {c:Cx} {P:Pg} (G:Gd c P) {n:Nat} {Q:AV→Zaa→Prop} {E:String→Zaa→Prop} {H:Zaa}
theorem Zs2 {r:Int} {w:Nat} {V:VV} {QN:VV→Zaa→Prop} {QR:AV→Zaa→Prop} {EE:String→VV→Zaa→Prop} {x0 x1 x3 x7:Option AV} {z:Addr} (hw:w≤10) (hz:H z=some (.range 0 w)) 
    (hV:V=[x0,x1,some (.str letters),x3,some (.int r),some (.str (Str.ofString "")),none,x7])
    (q:∀ a b,QN [x0,x1,some (.str letters),x3,some (.int a),some (.str ⟨(Zdx r w).1.toArray⟩),b,x7] H) :
    WFor QN (fun x nx V H=>wtg (.var 6) x V H fun V=>wpSs ⟨c,n,true⟩ [.assign (.var 5) (.bin .Add (.var 5) (.sub (.var 2) (.bin .Mod (.bin .FloorDiv (.var 4) (.lit (.int 300))) (.lit (.int 26))))),
      .assign (.var 4) (.bin .FloorDiv (.var 4) (.lit (.int 26)))] nx QR EE V H) (.ref z) V H:=by
  subst hV
  have hlen:(((w:Int) - 0).toNat)=w:=by lia
  refine Zd0 (xs:=(List.range ((w:Int) - 0).toNat).map fun (k:Nat)=>AV.int (0 + k)) (by simp [Zas,hz]) (fun k V' H'=>H'=H∧∃ b,V'=[x0,x1,some (.str letters),x3,some (.int (Zdx r k).2),some (.str ⟨(Zdx r k).1.toArray⟩),b,x7]) ⟨rfl,none,rfl⟩ ?_
  rintro I hI k V' H' ⟨rfl,b,rfl⟩
  refine ⟨by simp [Zdu],fun hk=>?_,fun y hy=>?_⟩
  · simp at hk;subst hk;exact q _ _
  · have hk:k < w:=by
      have:=(List.getElem?_eq_some_iff.mp hy).1
      simpa using this
    dsimp only [Zax,Zb0,Zaj,tv,Zau,Zah,Zae,Zar,wtg,List.length_cons,List.length_nil,Nat.reduceAdd,List.set_cons_succ,List.set_cons_zero,List.getElem?_cons_succ,v_0,Zb1,ne_eq,Zby];simp [v_0,Zah,Zae,Zau,Zbq,Zbb,x_ao,Zap,Za1,Zar,Zav,Za0,Zam,Zak,x_bm,Zbo,Zaw,Zbc,Zao,Zaf,Zac,Zba,Zaz,Zbv,Zbs,Zbj,Zbn,tv,tsub,tattr,wtg,Zb5,Zda,Zd6,Zb1,Zby,Zej,Zcr,c_lt,c_le,c_gt,c_ge,c_eq,c_ne,Zcf,Zdn,c_in,Zdm,Zai,Zeb,Zc0,Zax,Zb0,Zay,Zbt,Zaj,Zal,Za4]
    refine Zi7 (Za6 (by lia)) (Zbe (by lia)) ?_
    simp [v_0,Zah,Zae,Zau,Zbq,Zbb,x_ao,Zap,Za1,Zar,Zav,Za0,Zam,Zak,x_bm,Zbo,Zaw,Zbc,Zao,Zaf,Zac,Zba,Zaz,Zbv,Zbs,Zbj,Zbn,tv,tsub,tattr,wtg,Zb5,Zda,Zd6,Zb1,Zby,Zej,Zcr,c_lt,c_le,c_gt,c_ge,c_eq,c_ne,Zcf,Zdn,c_in,Zdm,Zai,Zeb,Zc0,Zax,Zb0,Zay,Zbt,Zaj,Zal,Za4]
    refine ⟨?_,?_⟩
    · have:=Zfl r k
      show (Zdx r k).1.toArray.size + 1≤sizeLine
      simp [this,sizeLine];lia
    · refine hI _ _ _ ⟨rfl,some y,?_⟩
      simp [Zdx]
      exact Zhc
theorem Zg3 {k cl r:Int} {EE:String→VV→Zaa→Prop} {QN:VV→Zaa→Prop} (q:∀ H',Ext H H'→Q (.str (if cl.fmod 2=1 then ⟨(Zdo k ++ (Zdx r ((r.fdiv 12).fmod 11).toNat).1).toArray⟩ else
      ⟨((Zdx r ((r.fdiv 12).fmod 11).toNat).1.take ((cl.fdiv 2).fmod ((Zdx r ((r.fdiv 12).fmod 11).toNat).1.length + 1)).toNat ++ Zdo k ++ (Zdx r ((r.fdiv 12).fmod 11).toNat).1.drop ((cl.fdiv 2).fmod ((Zdx r ((r.fdiv 12).fmod 11).toNat).1.length + 1)).toNat).toArray⟩)) H') :
    wpSs ⟨c,n,true⟩ Zi1 QN Q EE [some (.int k),some (.int cl),some (.str letters),some (.str ⟨(Zdo k).toArray⟩),some (.int r),none,none,none] H:=by
  have h0:0≤(r.fdiv 12).fmod 11:=Za6 (by decide)
  have h1:(r.fdiv 12).fmod 11 < 11:=Zbe (by decide)
  obtain ⟨w,hw⟩:∃ w:Nat,(r.fdiv 12).fmod 11=w:=⟨((r.fdiv 12).fmod 11).toNat,(Int.toNat_of_nonneg h0).symm⟩
  have hw10:w≤10:=Nat.le_of_lt_succ (Int.ofNat_lt.mp (hw ▸ h1))
  rw [hw] at q
  rw [Int.toNat_natCast] at q
  show wpSs _ [_,_,_,_,_] _ _ _ _ _
  refine w_st fun K nx=>?_
  dsimp only [Zaj,Zah,tv]
  refine ⟨(by decide:5 < 8),nx _ _ ?_⟩
  refine w_st fun K nx=>?_
  dsimp only [Zz5]
  refine ⟨rfl,?_⟩
  dsimp only [Zak,List.set_cons_succ,List.set_cons_zero,wtg,Zac,Zaf,Zau,Zah,Zae,List.getElem?_cons_succ,v_0,Zb1,ne_eq,Zby]
  refine ⟨by decide,by decide,?_⟩
  rw [hw,Zho]
  refine ⟨⟨by lia,by lia⟩,fun z hz=>?_⟩
  have q':=q _ (Ext.refl.new (o:=.range 0 w) hz)
  refine Zs2 (r:=r) (w:=w) hw10 Zad rfl fun a b=>nx _ _ ?_
  have hml:=Zfl r w
  generalize (Zdx r w).1=m at q' hml ⊢
  generalize up H z (.range 0 w)=H1 at q' ⊢
  have hsl:∀ x:Nat,x≤100→x≤sizeLine:=fun x h=>Nat.le_trans h (by decide)
  refine w_st fun K nx=>?_
  dsimp only [Zay]
  dsimp only [Zap,Zah,Zau,Zae,List.getElem?_cons_succ,v_0,Zby,ne_eq,c_eq,Zai,beq_iff_eq]
  refine ⟨by decide,?_⟩
  by_cases hc:cl.fmod 2=1
  · rw [if_pos hc] at q'
    rw [if_pos (beq_iff_eq.mpr hc)]
    dsimp only [Zax,Zb0,Zbt,Zau,Zae,List.getElem?_cons_succ,v_0,Zcr]
    rw [Zhc,str_len,str_len,hml]
    exact ⟨hsl _ (Nat.le_trans (Nat.add_le_add_left hw10 2) (by decide)),q'⟩
  · rw [if_neg hc] at q'
    rw [if_neg (fun e=>hc (beq_iff_eq.mp e))]
    refine nx _ _ ?_
    refine w_st fun K nx=>?_
    dsimp only [Zaj,tv,List.length_cons,List.length_nil,Nat.reduceAdd,List.set_cons_succ,List.set_cons_zero,Zau,Zah,Zak,Zac,Zaf,Zae,List.getElem?_cons_succ,v_0,Zb1,ne_eq]
    rw [Zj9,str_len,hml]
    rw [hml] at q'
    have ha0:0≤(cl.fdiv 2).fmod ((w:Int) + 1):=Za6 (by lia)
    have ha1:(cl.fdiv 2).fmod ((w:Int) + 1) < (w:Int) + 1:=Zbe (by lia)
    refine ⟨by decide,Nat.lt_of_le_of_lt hw10 (by decide),by lia,by decide,nx _ _ ?_⟩
    generalize (cl.fdiv 2).fmod ((w:Int) + 1)=a' at q' ha0 ha1
    have hs:Str.length ⟨m.toArray⟩ = w:=str_len.trans hml
    have t:a'.toNat≤w:=Int.toNat_le.mpr (Int.le_of_lt_add_one ha1)
    have t2:a'.toNat + 2≤12:=Nat.add_le_add_right (Nat.le_trans t hw10) 2
    have e1:min a'.toNat w=a'.toNat:=Nat.min_eq_left t
    have l1:a'≤Str.length ⟨m.toArray⟩:=hs ▸ Int.le_of_lt_add_one ha1
    have l2:Str.length ⟨m.toArray⟩≤sizeLine:=hs ▸ hsl _ (Nat.le_trans hw10 (by decide))
    have g1:Str.length ⟨(m.take a'.toNat).toArray⟩ = a'.toNat:=by rw [str_len,List.length_take,hml];exact e1
    have g2:Str.length ⟨(m.drop a'.toNat).toArray⟩ = w - a'.toNat:=by rw [str_len,List.length_drop,hml]
    have g3:Str.length (⟨(m.take a'.toNat).toArray⟩ ++ ⟨(Zdo k).toArray⟩)=a'.toNat + 2:=by rw [Zhc,str_len,List.length_append,List.length_take,hml,e1];rfl
    refine ⟨ha0,l1,l2,(?_:Str.length ⟨(m.take a'.toNat).toArray⟩ + Str.length ⟨(Zdo k).toArray⟩≤_),ha0,l1,l2,(?_:Str.length (⟨(m.take a'.toNat).toArray⟩ ++ ⟨(Zdo k).toArray⟩) + Str.length ⟨(m.drop a'.toNat).toArray⟩≤_),?_⟩
    · rw [g1];exact hsl _ (Nat.le_trans t2 (by decide))
    · rw [g2,g3];exact hsl _ (Nat.le_trans (Nat.add_le_add t2 (Nat.le_trans (Nat.sub_le _ _) hw10)) (by decide))
    · show Q (.str (⟨(m.take a'.toNat).toArray⟩ ++ ⟨(Zdo k).toArray⟩ ++ ⟨(m.drop a'.toNat).toArray⟩)) _
      rw [Zhc,Zhc]
      exact q'
include G in
theorem Zu8 {nm:String} (h1:P.fns.lookup "_law_word" = some (Zmb nm)) (h2:P.fns.lookup "_law_mixed" = some BK.f__law_mixed) {k cl:Int} (hk:0≤k) (hk':k < 600) (q:∀ H',Ext H H'→Q (.str (word k cl)) H'):CallOK c (n + 2) true "_law_word" [.int k,.int cl] Q E H:=by
  refine G.call (F:=Zmb nm) h1 rfl ?_
  have hl:Str.ofString "abcdefghijklmnopqrstuvwxyz" = letters:=rfl
  simp only [Zmb,hl]
  show wpSs _ (_ :: _ :: _ :: _ :: Zi1) _ _ _ [some (.int k),some (.int cl),none,none,none,none,none,none] _
  rw [Zax,Zaj]
  dsimp only [tv,List.length_cons,List.length_nil,Nat.reduceAdd,List.set_cons_succ,List.set_cons_zero,Zah]
  rw [Zax,Zaj]
  dsimp only [tv,List.length_cons,List.length_nil,Nat.reduceAdd,List.set_cons_succ,List.set_cons_zero,Zau,Zar,Zah,Zae,v_0,Zby,ne_eq,List.getElem?_cons_succ,Zb1];simp [v_0,Zah,Zae,Zau,Zbq,Zbb,x_ao,Zap,Za1,Zar,Zav,Za0,Zam,Zak,x_bm,Zbo,Zaw,Zbc,Zao,Zaf,Zac,Zba,Zaz,Zbv,Zbs,Zbj,Zbn,tv,tsub,tattr,wtg,Zb5,Zda,Zd6,Zb1,Zby,Zej,Zcr,c_lt,c_le,c_gt,c_ge,c_eq,c_ne,Zcf,Zdn,c_in,Zdm,Zai,Zeb,Zc0]
  refine Zi7 (Za6 (by lia)) (Zbe (by lia)) ?_
  refine Zi7 (Za6 (by lia)) (Zbe (by lia)) ?_
  rw [Zcr]
  have htold:(⟨#[chI ((k.fdiv 26).fmod 26)]⟩ ++ ⟨#[chI (k.fmod 26)]⟩:Str)=⟨(Zdo k).toArray⟩:=rfl
  rw [htold]
  refine ⟨by show 1 + 1≤sizeLine;simp [sizeLine],?_⟩
  rw [Zax,Zaj]
  dsimp only [tv,List.length_cons,List.length_nil,Nat.reduceAdd,List.set_cons_succ,List.set_cons_zero,Zam,Zac,Zaf,Zah,Zae,List.getElem?_cons_succ,v_0]
  refine Zgy G h2 ?_
  rw [Zax,Zay]
  dsimp only [Zap,Zah,Zau,Zae,List.getElem?_cons_succ,v_0,Zby,ne_eq,c_eq,Zai,beq_iff_eq];simp [v_0,Zah,Zae,Zau,Zbq,Zbb,x_ao,Zap,Za1,Zar,Zav,Za0,Zam,Zak,x_bm,Zbo,Zaw,Zbc,Zao,Zaf,Zac,Zba,Zaz,Zbv,Zbs,Zbj,Zbn,tv,tsub,tattr,wtg,Zb5,Zda,Zd6,Zb1,Zby,Zej,Zcr,c_lt,c_le,c_gt,c_ge,c_eq,c_ne,Zcf,Zdn,c_in,Zdm,Zai,Zeb,Zc0]
  by_cases hc:cl.fmod 2=1
  · simp [hc,Zai]
    rw [Zax,Zaj]
    dsimp only [tv,List.length_cons,List.length_nil,Nat.reduceAdd,List.set_cons_succ,List.set_cons_zero,Zam,Zac,Zaf,Zae,v_0,List.getElem?_cons_succ]
    refine Zgy G h2 ?_
    rw [Zax,Zay]
    dsimp only [x_ao,Zaz,Zba,Zap,Zah,Zae,v_0,c_lt,Zai,decide_eq_true_eq,Zau,List.getElem?_cons_succ,Zby,ne_eq,c_eq,beq_iff_eq];simp [v_0,Zah,Zae,Zau,Zbq,Zbb,x_ao,Zap,Za1,Zar,Zav,Za0,Zam,Zak,x_bm,Zbo,Zaw,Zbc,Zao,Zaf,Zac,Zba,Zaz,Zbv,Zbs,Zbj,Zbn,tv,tsub,tattr,wtg,Zb5,Zda,Zd6,Zb1,Zby,Zej,Zcr,c_lt,c_le,c_gt,c_ge,c_eq,c_ne,Zcf,Zdn,c_in,Zdm,Zai,Zeb,Zc0]
    by_cases hr:(mixed cl k).fmod 12=11
    · by_cases hk2:k < 26
      · simp [hr,hk2,Zai]
        rw [Zax,Zbt]
        dsimp only [v_0,Zah,Zae,Zau,Zbq,Zbb,x_ao,Zap,Za1,Zar,Zav,Za0,Zam,Zak,x_bm,Zbo,Zaw,Zbc,Zao,Zaf,Zac,Zba,Zaz,Zbv,Zbs,Zbj,Zbn,tv,tsub,tattr,wtg,Zb5,Zda,Zd6,Zb1,Zby,Zej,Zcr,c_lt,c_le,c_gt,c_ge,c_eq,c_ne,Zcf,Zdn,c_in,Zdm,Zai,Zeb,Zc0]
        refine Zi7 hk hk2 ?_
        have:=q H .refl
        simpa [word,Ze8,hc,hr,hk2] using this
      · simp [hr,hk2,Zai]
        rw [Zb0,Zb0]
        refine Zg3 fun H' hE=>?_
        have:=q H' hE
        simpa [word,Ze8,hc,hr,hk2] using this
    · simp [hr,Zai]
      rw [Zb0,Zb0]
      refine Zg3 fun H' hE=>?_
      have:=q H' hE
      simpa [word,Ze8,hc,hr] using this
  · simp [hc,Zai]
    rw [Zb0]
    refine Zg3 fun H' hE=>?_
    have:=q H' hE
    simpa [word,Ze8,hc] using this
theorem Zmr (r:Int):(Zdx r ((r.fdiv 12).fmod 11).toNat).1.length≤10:=by
  rw [Zfl]
  have:=Zbe (x:=r.fdiv 12) (m:=11) (by decide)
  omega
theorem Zr2 {k cl:Int}:(word k cl).length≤12:=by
  show (Ze8 k cl).length≤12
  unfold Ze8
  split
  · dsimp only
    split
    · exact (by decide:1≤12)
    · rw [List.length_append]
      exact Nat.add_le_add (Nat.le_refl 2) (Zmr _)
  · dsimp only
    rw [List.length_append,List.length_append,Nat.add_right_comm,← List.length_append,List.take_append_drop]
    exact Nat.add_le_add (Zmr _) (Nat.le_refl 2)
end
theorem Zu5:∀ i:Fin 26,chI ((i.val:Nat):Int)=97 + i.val:=by decide +kernel
theorem Zl8 {i j:Int} (h0:0≤i) (h1:i < 26) (h2:0≤j) (h3:j < 26) (h:chI i=chI j):i=j:=by
  have a:=Zu5 ⟨i.toNat,by lia⟩
  have b:=Zu5 ⟨j.toNat,by lia⟩
  simp only [Int.toNat_of_nonneg h0,Int.toNat_of_nonneg h2] at a b
  lia
theorem Zmd {k k':Int} (h0:0≤k) (h1:k < 600) (h2:0≤k') (h3:k' < 600) (h:Zdo k=Zdo k'):k=k':=by
  simp only [Zdo,List.cons.injEq,and_true] at h
  have a:=Zl8 (Za6 (by lia)) (Zbe (by lia)) (Za6 (by lia)) (Zbe (by lia)) h.1
  have b:=Zl8 (Za6 (by lia)) (Zbe (by lia)) (Za6 (by lia)) (Zbe (by lia)) h.2
  rw [Int.fmod_eq_emod_of_nonneg _ (by lia),Int.fmod_eq_emod_of_nonneg _ (by lia),Int.fdiv_eq_ediv_of_nonneg _ (by lia),Int.fdiv_eq_ediv_of_nonneg _ (by lia)] at a
  rw [Int.fmod_eq_emod_of_nonneg _ (by lia),Int.fmod_eq_emod_of_nonneg _ (by lia)] at b
  lia
set_option tactic.hygienic true in
theorem Zr3 {k k' cl:Int} (h0:0≤k) (h1:k < 600) (h2:0≤k') (h3:k' < 600) (h:word k cl=word k' cl):k=k':=by
  have h:Ze8 k cl=Ze8 k' cl:=by
    have:=congrArg (fun s=>s.cps.toList) h
    simpa [word] using this
  unfold Ze8 at h
  split at h
  · dsimp only at h
    split at h
    · rename_i ha
      split at h
      · rename_i hb
        simp only [List.cons.injEq,and_true] at h
        exact Zl8 h0 ha.2 h2 hb.2 h
      · have:=congrArg List.length h
        simp [Zdo] at this
    · split at h
      · have:=congrArg List.length h
        simp [Zdo] at this
      · have e:Zdo k=Zdo k':=by
          have:=congrArg (List.take 2) h
          simpa [Zdo] using this
        exact Zmd h0 h1 h2 h3 e
  · dsimp only at h
    rw [List.append_assoc,List.append_assoc] at h
    have:=List.append_cancel_left h
    exact Zmd h0 h1 h2 h3 (List.append_cancel_right this)
theorem Zeh {l:List (Str×Int)} {e:Str×Int} {s:Str}:lk (e :: l) s=if e.1=s then some e.2 else lk l s:=by
  unfold lk
  rw [List.find?_cons]
  by_cases h:e.1=s <;> simp [h]
theorem Zy5 {l:List (Str×Int)} {k s:Str} {x:Int}:lk (l.map fun e=>if e.1=k then (e.1,x) else e) s=if s=k then (lk l k).map (fun _=>x) else lk l s:=by
  induction l with
  | nil=>by_cases h:s=k <;> simp [h,lk]
  | cons e r ih =>
    rw [List.map_cons,Zeh,Zeh,Zeh,ih]
    by_cases h:e.1=k
    · by_cases h2:s=k
      · simp [h,h2]
      · have:¬ k=s:=fun e=>h2 e.symm
        simp [h,h2,this]
    · by_cases h2:s=k
      · simp [h,h2]
      · simp [h,h2]
theorem Zy7 {l:List (Str×Int)} {k s:Str} {x:Int} (h:lk l k=none):lk (l ++ [(k,x)]) s=if s=k then some x else lk l s:=by
  induction l with
  | nil=>rw [List.nil_append,Zeh];by_cases h2:s=k <;> simp [h2,lk] ;exact fun e=>absurd e.symm h2
  | cons e r ih =>
    rw [Zeh] at h
    by_cases h1:e.1=k
    · simp [h1] at h
    · rw [if_neg h1] at h
      rw [List.cons_append,Zeh,Zeh,ih h]
      by_cases h2:s=k
      · simp [h2,h1]
      · simp [h2]
set_option tactic.hygienic true in
theorem Zy6 {l:List (Str×Int)} {k s:Str} {x:Int}:lk (pt l k x) s=if s=k then some x else lk l s:=by
  unfold pt
  split
  · rename_i h
    rw [Zy5]
    obtain ⟨y,hy⟩:=Option.isSome_iff_exists.mp h
    rw [hy];rfl
  · rename_i h
    exact Zy7 (by simpa using h)
theorem Z0z {l:List (Str×Int)} {k s:Str} {x:Int}:hs (pt l k x) s=(decide (s=k) || hs l s):=by
  unfold hs;rw [Zy6];by_cases h:s=k <;> simp [h]
end Mine
end
section
open PySem PySem.W PyProof.Rows PySem.Spec PySem.SeqAt PySem.Calls
namespace Mine
noncomputable def pAt:List Pc→Str→Option (Nat×Pc)
  | [],_=>none
  | q :: r,k=>if q.name=k then some (0,q) else (pAt r k).map fun e=>(e.1 + 1,e.2)
theorem Zco {ps:List Pc} {k:Str} {j:Nat} {q:Pc} (h:pAt ps k=some (j,q)):ps[j]? = some q∧q.name=k:=by
  induction ps generalizing j with
  | nil=>cases h
  | cons q' r ih =>
    unfold pAt at h
    by_cases e:q'.name=k
    · rw [if_pos e] at h;cases h;exact ⟨rfl,e⟩
    · rw [if_neg e] at h
      obtain ⟨⟨j',q''⟩,h1,h2⟩:=Option.map_eq_some_iff.mp h
      cases h2
      exact ih h1
section
variable {o:Addr→Option Role} {H H':Zaa}
theorem Zee {i:Nat} {as:List Addr} {ps:List Pc} (h:pactsAt o H i as ps) {k:Str}:Zbx (dP ps as) k=(pAt ps k).bind fun e=>(as[e.1]?).map .ref:=by
  induction ps generalizing i as with
  | nil=>cases as with
    | nil=>rfl
    | cons=>exact h.elim
  | cons q qs ih =>
    cases as with
    | nil=>exact h.elim
    | cons a as =>
    show Zbx ((q.name,.ref a) :: dP qs as) k=_
    unfold Zbx pAt
    rw [List.find?_cons]
    by_cases e:q.name=k
    · rw [if_pos e,show decide ((q.name,AV.ref a).1=k)=true from decide_eq_true e];rfl
    · rw [if_neg e,show decide ((q.name,AV.ref a).1=k)=false from decide_eq_false e]
      have:=ih h.2
      unfold Zbx at this
      show Option.map (·.2) (List.find? (fun e=>decide (e.1=k)) (dP qs as))=_
      rw [this]
      cases pAt qs k <;> rfl
theorem Zcu {i:Nat} {as:List Addr} {ps:List Pc} {j:Nat} {q:Pc} (h:pactsAt o H i as ps) (e:ps[j]? = some q):∃ a,as[j]? = some a∧IsPact o H (i + j) a q:=by
  induction ps generalizing i as j with
  | nil=>cases e
  | cons q' qs ih =>
    cases as with
    | nil=>exact h.elim
    | cons a as =>
      cases j with
      | zero=>cases e;exact ⟨a,rfl,h.1⟩
      | succ j =>
        obtain ⟨a',h1,h2⟩:=ih h.2 e
        exact ⟨a',h1,by rw [← Nat.add_assoc,Nat.add_right_comm];exact h2⟩
theorem Zp7 {a b:Nat} (h:a≠b):Role.pact a≠.pact b:=fun z=>h (Role.pact.inj z)
theorem Zuw {a b:Nat} (h:a≠b):Role.inside a≠.inside b:=fun z=>h (Role.inside.inj z)
theorem Zlk {i:Nat} {as:List Addr} {ps:List Pc} {j:Nat} {a:Addr} {q:Pc} (h:pactsAt o H i as ps) (k:KB (fun r=>r≠.pact (i + j)∧r≠.inside (i + j)) o o H H') (e:as[j]? = some a) (hq:IsPact o H' (i + j) a q):pactsAt o H' i as (ps.set j q):=by
  induction ps generalizing i as j with
  | nil=>cases as with
    | nil=>cases e
    | cons=>exact h.elim
  | cons q' qs ih =>
    cases as with
    | nil=>exact h.elim
    | cons b as =>
      cases j with
      | zero =>
        cases e
        refine ⟨hq,h.2.congr k ⟨(fun z=>by cases z),fun z=>by cases z⟩ fun m hm=>?_⟩
        have hne:m≠i + 0:=Nat.ne_of_gt hm
        exact ⟨⟨Zp7 hne,fun z=>by cases z⟩,(fun z=>by cases z),Zuw hne⟩
      | succ j =>
        have hne:i≠i + (j + 1):=Nat.ne_of_lt (Nat.lt_add_of_pos_right (Nat.succ_pos j))
        refine ⟨h.1.congr k ⟨(fun z=>by cases z),fun z=>by cases z⟩ ⟨⟨Zp7 hne,fun z=>by cases z⟩,(fun z=>by cases z),Zuw hne⟩,?_⟩
        rw [show i + (j + 1)=i + 1 + j by rw [← Nat.add_assoc,Nat.add_right_comm]] at k hq
        exact ih h.2 k e hq
theorem Zzv {ps:List Pc} {as:List Addr} {j:Nat} {q q':Pc} (h:ps[j]? = some q) (e:q'.name=q.name):dP (ps.set j q') as=dP ps as:=by
  induction ps generalizing as j with
  | nil=>cases h
  | cons p ps ih =>
    cases as with
    | nil=>cases j <;> rfl
    | cons a as =>
      cases j with
      | zero=>cases h;show (q'.name,AV.ref a) :: dP ps as=_;rw [e];rfl
      | succ j=>show (p.name,AV.ref a) :: dP (ps.set j q') as=_;rw [ih h];rfl
theorem IsBook.setPact {b f s p a:Addr} {as:List Addr} {B:Bk} {j:Nat} {q q':Pc} (ib:IsBook o H b f s p as B) (hj:B.pacts[j]? = some q) (ha:as[j]? = some a) (k:KB (fun r=>r≠.pact j∧r≠.inside j) o o H H') (hq:IsPact o H' j a q') (hn:q'.name=q.name):IsBook o H' b f s p as { B with pacts:=B.pacts.set j q' }:=by
  obtain ⟨e1,h1⟩:=ib.hf
  obtain ⟨e2,h2⟩:=ib.hs
  obtain ⟨e3,h3⟩:=ib.hp
  have n:∀ {r:Role},(∀ i,r≠.pact i)→(∀ i,r≠.inside i)→r≠.pact j∧r≠.inside j:=fun h h'=>⟨h j,h' j⟩
  refine ⟨ib.ob,ib.of,ib.os,ib.op,(k b _ _ ⟨(fun z=>by cases z),fun z=>by cases z⟩ ib.ob ib.hb rfl).2,⟨e1,(k f _ _ ⟨(fun z=>by cases z),fun z=>by cases z⟩ ib.of h1 rfl).2⟩,⟨e2,(k s _ _ ⟨(fun z=>by cases z),fun z=>by cases z⟩ ib.os h2 rfl).2⟩,⟨e3,?_⟩,?_⟩
  · show H' p=some (.dict e3 (dP (B.pacts.set j q') as))
    rw [Zzv hj hn];exact (k p _ _ ⟨(fun z=>by cases z),fun z=>by cases z⟩ ib.op h3 rfl).2
  · exact Zlk ib.ps (by rw [Nat.zero_add];exact k) ha (by rw [Nat.zero_add];exact hq)
end
noncomputable def Zch (B:Bk):AV→Option (Nat×Pc)
  | .str k=>if isNm k then pAt B.pacts k else none
  | _=>none
structure HasP (P:Pg):Prop where
  a:HasA P
  need_pact:P.fns.lookup "Book.need_pact" = some BK.f_Book_need_pact
  need_open:P.fns.lookup "Book.need_open" = some BK.f_Book_need_open
section
variable {c:Cx} {P:Pg} (G:Gd c P) (U:HasP P) {n:Nat} {md:Bool} {Q:AV→Zaa→Prop} {E:String→Zaa→Prop} {H:Zaa} {o:Addr→Option Role} {b f s p:Addr} {as:List Addr} {B:Bk}
theorem Zg0 {k:Str} {no:Bool} (ib:IsBook o H b f s p as B) (q:Q (.bool ((pAt B.pacts k).isSome != no)) H):win no (.str k) (.ref p) Q H:=by
  obtain ⟨ep,hp⟩:=ib.hp
  (dsimp only [Zfr];rw [hp])
  show Q (.bool (nt no (Zbx (dP B.pacts as) k).isSome)) H
  rw [Zee ib.ps,← Zn5]
  cases e:pAt B.pacts k with
  | none=>rw [e] at q;exact q
  | some x =>
    obtain ⟨a,h1,_⟩:=Zcu ib.ps (Zco (j:=x.1) (q:=x.2) e).1
    rw [e] at q
    show Q (.bool (((as[x.1]?).map AV.ref).isSome != no)) H
    rw [h1];exact q
theorem Zfc {k:Str} {j:Nat} {x:Pc} (ib:IsBook o H b f s p as B) (e:pAt B.pacts k=some (j,x)) (q:∀ a,as[j]? = some a→IsPact o H j a x→Q (.ref a) H):wsub (.ref p) (.str k) Q H:=by
  obtain ⟨ep,hp⟩:=ib.hp
  obtain ⟨a,h1,h2⟩:=Zcu ib.ps (Zco e).1
  (dsimp only [Zhb];rw [hp])
  refine ⟨.ref a,?_,q a h1 (by rw [Nat.zero_add] at h2;exact h2)⟩
  rw [Zee ib.ps,e]
  show (as[j]?).map AV.ref=_
  rw [h1];rfl
include G U
theorem Zef {v:AV} (ib:IsBook o H b f s p as B) (hk:Kn H v) (q:match Zch B v with | some (j,x)=>∀ a,as[j]? = some a→IsPact o H j a x→Q (.ref a) H | none=>E "NoPact" H):CallOK c (n + 2) true "Book.need_pact" [.ref b,v] Q E H:=by
  refine G.call (F:=BK.f_Book_need_pact) U.need_pact rfl ?_
  have hA:c.P.attrs=BK.attrs:=by rw [G.hP,U.a.attrs]
  show wpSs _ _ _ _ _ [some (.ref b),some v] _
  refine w_st fun K nx=>?_
  dsimp [v_0,Zah,Zae,Zau,Zbq,Zbb,x_ao,Zap,Za1,Zar,Zav,Za0,Zam,Zak,x_bm,Zbo,Zaw,Zbc,Zao,Zaf,Zac,Zba,Zaz,Zbv,Zbs,Zbj,Zbn,tv,wtg,Zb5,Zda,Zd6,Zb1,Zby,Zej,Zcr,c_lt,c_le,c_gt,c_ge,c_eq,c_ne,Zcf,Zdn,c_in,Zdm,Zai,Zeb,Zc0,Zax,Zb0,Zay,Zbt,Zaj,Zal,Za4]
  refine Zf4 G U.a hk ?_
  cases hn:Zds v with
  | false =>
    have:Zch B v=none:=by cases v <;> first | rfl | (simp only [Zds] at hn;simp [Zch,hn])
    rw [this] at q
    exact ⟨rfl,q⟩
  | true =>
    obtain ⟨k,rfl⟩:∃ k,v = .str k:=⟨_,Zfj hn⟩
    have hpv:Zch B (.str k)=pAt B.pacts k:=if_pos hn
    rw [hpv] at q
    (dsimp only [Zai];refine Eq.mpr (if_pos (by decide)) ?_)
    refine Zcz hA ib rfl (Zg0 ib ?_)
    cases e:pAt B.pacts k with
    | none =>
      rw [e] at q
      exact ⟨rfl,q⟩
    | some x =>
      rw [e] at q
      refine nx _ _ ?_
      refine w_st fun K nx=>?_
      dsimp only [Zbt,Zar]
      refine Zcz hA ib rfl ?_
      exact Zfc ib (j:=x.1) (x:=x.2) e q
end
end Mine
end
section
open PySem PySem.W PyProof.Rows PySem.Spec PySem.SeqAt PySem.Calls
namespace Mine
noncomputable def insD (x:Pc):List (Str×AV):=x.inside.map fun k=>(k,.bool true)
section
variable {o:Addr→Option Role} {H:Zaa}
theorem Zdw:∀ {ts:List Addr} {l:List (Str×Int)} {m:Nat} {t:Addr},pairsAV o H ts l→ts[m]? = some t→∃ e,l[m]? = some e∧o t=some .data∧H t=some (.tuple [.str e.1,.int e.2])
  | t :: _,e :: _,0,_,h,z=>by cases z;exact ⟨e,rfl,h.1,h.2.1⟩
  | _ :: ts,_ :: l,m + 1,_,h,z=>Zdw (m:=m) h.2.2 z
  | [],[],_,_,_,z=>by cases z
  | [],_ :: _,_,_,h,_=>h.elim
  | _ :: _,[],_,_,h,_=>h.elim
theorem Zdh:∀ {ts:List Addr} {l:List (Str×Int)},pairsAV o H ts l→ts.length=l.length
  | [],[],_=>rfl
  | _ :: _,_ :: _,h=>congrArg Nat.succ (Zdh h.2.2)
  | [],_ :: _,h=>h.elim
  | _ :: _,[],h=>h.elim
theorem Zew {Q:AV→Zaa→Prop} {a:Addr} {xs:List AV} {i:Int} {v:AV} (h:H a=some (.tuple xs)) (h0:0≤i) (hk:xs[i.toNat]? = some v) (hl:xs.length≤100000) (q:Q v H):wsub (.ref a) (.int i) Q H:=by
  have hlt:i.toNat < xs.length:=(List.getElem?_eq_some_iff.mp hk).1
  (dsimp only [Zfb];rw [h])
  exact ⟨i.toNat,v,by simp only [Zfy,h0,if_true];rw [if_pos (by lia)],by lia,by lia,hk,q⟩
theorem Zjh {Q:AV→Zaa→Prop} {t:Addr} {k:Str} {i:Int} (h:H t=some (.tuple [.str k,.int i])) (q:Q (.str k) H):wsub (.ref t) (.int 0) Q H:=Zew h (by decide) rfl (by simp) q
theorem Zss {Q:AV→Zaa→Prop} {t:Addr} {k:Str} {i:Int} (h:H t=some (.tuple [.str k,.int i])) (q:Q (.int i) H):wsub (.ref t) (.int 1) Q H:=Zew h (by decide) rfl (by simp) q
end
section
variable {c:Cx} {P:Pg} (G:Gd c P) (U:HasP P) {n:Nat} {md:Bool} {Q:AV→Zaa→Prop} {E:String→Zaa→Prop} {H:Zaa} {o:Addr→Option Role} {b f s p a:Addr} {as:List Addr} {B:Bk} {j:Nat} {x:Pc}
section
variable {g:Gx} {V:VV} {i:Nat} (hP:g.c.P.attrs=BK.attrs) (ip:IsPact o H j a x) (hV:V[i]? = some (some (.ref a)))
include hP ip hV
theorem Zff (q:Q (.str x.state.str) H):wpX g (.attr (.var i) "state") V Q E H:=by
  obtain ⟨pa,ga,ne,ins,ep,h,_⟩:=ip.at_
  simp only [Za3,Zae,hV,h];exact ⟨by rw [hP];rfl,q⟩
theorem Zji (q:Q (.str x.name) H):wpX g (.attr (.var i) "name") V Q E H:=by
  obtain ⟨pa,ga,ne,ins,ep,h,_⟩:=ip.at_
  simp only [Za3,Zae,hV,h];exact ⟨by rw [hP];rfl,q⟩
theorem Zv8 (q:Q (.int x.last) H):wpX g (.attr (.var i) "last") V Q E H:=by
  obtain ⟨pa,ga,ne,ins,ep,h,_⟩:=ip.at_
  simp only [Za3,Zae,hV,h];exact ⟨by rw [hP];rfl,q⟩
theorem Zfg (q:∀ z,PairsAt o H z x.parts→Q (.ref z) H):wpX g (.attr (.var i) "parts") V Q E H:=by
  obtain ⟨pa,ga,ne,ins,ep,h,h1,_⟩:=ip.at_
  simp only [Za3,Zae,hV,h];exact ⟨by rw [hP];rfl,q pa h1⟩
theorem Zst (q:∀ z,PairsAt o H z x.gains→Q (.ref z) H):wpX g (.attr (.var i) "gains") V Q E H:=by
  obtain ⟨pa,ga,ne,ins,ep,h,h1,h2,_⟩:=ip.at_
  simp only [Za3,Zae,hV,h];exact ⟨by rw [hP];rfl,q ga h2⟩
theorem Zml (q:∀ z,o z=some .data→H z=some (.list (txs x.needs))→Q (.ref z) H):wpX g (.attr (.var i) "needs") V Q E H:=by
  obtain ⟨pa,ga,ne,ins,ep,h,h1,h2,h3,h4,_⟩:=ip.at_
  simp only [Za3,Zae,hV,h];exact ⟨by rw [hP];rfl,q ne h3 h4⟩
theorem Zfh (q:∀ z ep,o z=some (.inside j)→H z=some (.dict ep (insD x))→(∀ ep' l,IsPact o (up H z (.dict ep' (l.map fun k=>(k,.bool true)))) j a { x with inside:=l })→Q (.ref z) H):wpX g (.attr (.var i) "inside") V Q E H:=by
  obtain ⟨h0,pa,ga,ne,ins,ep,h,h1,h2,h3,h4,h5,h6⟩:=ip
  simp only [Za3,Zae,hV,h];refine ⟨by rw [hP];rfl,q ins ep h5 h6 fun ep' l=>?_⟩
  have kb:∀ y,KB (fun r=>r = .data) o o H (up H ins y):=fun y=>Zh8 fun r hr z=>by rw [h5] at hr;cases hr;cases z
  exact ⟨h0,pa,ga,ne,ins,ep',by rw [Zab (Zb7 h0 h5 (by intro z;cases z))];exact h,h1.congr (kb _) rfl,h2.congr (kb _) rfl,h3,by rw [Zab (Zb7 h3 h5 (by intro z;cases z))];exact h4,h5,Zad⟩
theorem Zll {m:String} {xs:List X} (hM:g.c.P.meths=BK.meths) (hm:BK.meths.contains ("Pact",m)=true) (hn:["name","parts","gains","needs","last","state","inside"].contains m=false)
    (q:wpXs g xs V (fun vs H=>CallOK g.c g.n g.md ("Pact." ++ m) (.ref a :: vs) Q E H) E H):wpX g (.meth (.var i) m xs) V Q E H:=by
  obtain ⟨pa,ga,ne,ins,ep,h,_⟩:=ip.at_
  simp only [Zbg,Zae,hV,h]
  refine ⟨by rw [hM];exact hm,?_,q⟩
  simp only [List.contains_cons,List.contains_nil,Bool.or_false,Bool.or_eq_false_iff,beq_eq_false_iff_ne] at hn
  obtain ⟨n1,n2,n3,n4,n5,n6,n7⟩:=hn
  simp [Zd3,n1.symm,n2.symm,n3.symm,n4.symm,n5.symm,n6.symm,n7.symm]
end
include G U
theorem Zeg {v:AV} (ib:IsBook o H b f s p as B) (hk:Kn H v) (q:match Zch B v with | some (j,x)=>(if x.state = .opn then ∀ a,as[j]? = some a→IsPact o H j a x→Q (.ref a) H else E "NotOpen" H) | none=>E "NoPact" H):CallOK c (n + 3) true "Book.need_open" [.ref b,v] Q E H:=by
  refine G.call (F:=BK.f_Book_need_open) U.need_open rfl ?_
  have hA:c.P.attrs=BK.attrs:=by rw [G.hP,U.a.attrs]
  have hM:c.P.meths=BK.meths:=by rw [G.hP,U.a.meths]
  show wpSs _ _ _ _ _ [some (.ref b),some v,none] _
  refine w_st fun K nx=>?_
  dsimp only [Zaj]
  refine Zbh hM (by decide) (by decide) ib rfl ?_
  dsimp only [String.reduceAppend,tv,List.length_cons,List.length_nil,Nat.reduceAdd,List.set_cons_succ,List.set_cons_zero,Zac,Zaf,Zae,List.getElem?_cons_succ,v_0]
  refine Zef G U ib hk ?_
  cases e:Zch B v with
  | none=>rw [e] at q;exact q
  | some z =>
    obtain ⟨j,x⟩:=z
    rw [e] at q
    intro a ha ip
    refine ⟨by decide,nx _ _ ?_⟩
    refine w_st fun K nx=>?_
    show wpS _ _ _ _ _ [some (.ref b),some v,some (.ref a)] _
    dsimp only [Zay,Zap]
    refine Zff hA ip rfl ?_
    dsimp only [Zah,Zdn,Zai]
    by_cases h:x.state = .opn
    · have q:∀ a,as[j]? = some a→IsPact o H j a x→Q (.ref a) H:=by simpa only [h,if_true] using q
      refine Eq.mpr (if_neg (by rw [h];decide)) ?_
      exact nx _ _ (q a ha ip)
    · have q:E "NotOpen" H:=by simpa only [h,if_false] using q
      refine Eq.mpr (if_pos (by revert h;cases x.state <;> decide)) ?_
      exact ⟨rfl,q⟩
omit U in
theorem Zih {k:Str} (hU:P.fns.lookup "Pact.part_of" = some BK.f_Pact_part_of) (hA:c.P.attrs=BK.attrs) (ip:IsPact o H j a x) (q:Q (match lk x.parts k with | some i=>.int i | none=>.none) H):CallOK c (n + 1) true "Pact.part_of" [.ref a,.str k] Q E H:=by
  refine G.call (F:=BK.f_Pact_part_of) hU rfl ?_
  show wpSs _ _ _ _ _ [some (.ref a),some (.str k),none] _
  refine w_st fun K nx=>?_
  dsimp only [Zbd]
  refine ⟨rfl,?_⟩
  refine Zfg hA ip rfl fun z ⟨hz,ts,hts,hl⟩=>?_
  refine Zd0 (xs:=ts.map .ref) (by simp only [Zas,hts]) (fun m V' H'=>H'=H∧(∃ pr,V'=[some (.ref a),some (.str k),pr])∧lk (x.parts.take m) k=none) ⟨rfl,⟨_,rfl⟩,rfl⟩ ?_
  rintro I hI m V' H' ⟨rfl,⟨pr,rfl⟩,hm⟩
  refine ⟨rfl,fun hlen=>?_,fun y hy=>?_⟩
  · rw [hlen,List.length_map,Zdh hl,List.take_length] at hm
    rw [hm] at q
    exact nx _ _ q
  · rw [List.getElem?_map,Option.map_eq_some_iff] at hy
    obtain ⟨t,ht,rfl⟩:=hy
    obtain ⟨e,he,_,htt⟩:=Zdw hl ht
    refine ⟨show 2 < 3 by decide,?_⟩
    refine w_st fun K nx=>?_
    show wpS _ _ _ _ _ [some (.ref a),some (.str k),some (.ref t)] _
    dsimp only [Zay,Zax,Zb0,Zbt,Zar,Zah,Zae,List.getElem?_cons_succ,v_0,Zap]
    refine Zjh htt ?_
    dsimp only [Zcf,Zai]
    have hsplit:x.parts.take (m + 1)=x.parts.take m ++ [e]:=by rw [List.take_add_one,he];rfl
    by_cases h:e.1=k
    · refine Eq.mpr (if_pos (by rw [h];exact beq_self_eq_true k)) ?_
      refine Zss htt ?_
      have:lk x.parts k=some e.2:=by
        have hlk:lk (x.parts.take (m + 1)) k=some e.2:=by
          rw [hsplit];unfold lk at hm ⊢
          rw [List.find?_append,Option.map_eq_none_iff.mp hm];simp [h]
        unfold lk at hlk ⊢
        obtain ⟨w,hw,hw2⟩:=Option.map_eq_some_iff.mp hlk
        rw [← List.take_append_drop (m + 1) x.parts,List.find?_append,hw];exact congrArg some hw2
      rw [this] at q
      exact q
    · refine Eq.mpr (if_neg (by simpa using h)) ?_
      refine nx _ _ (hI _ _ _ ⟨rfl,⟨_,rfl⟩,?_⟩)
      rw [hsplit];unfold lk at hm ⊢
      rw [List.find?_append,Option.map_eq_none_iff.mp hm];simp [h]
end
end Mine
end
section
open PySem PySem.W PyProof.Rows PySem.Spec PySem.SeqAt PySem.Calls
namespace Mine
noncomputable def Zh9 (B:Bk) (k:Str) (i:Int):Bk:={ B with aside:=pt B.aside k ((lk B.aside k).getD 0 - i),free:=pt B.free k ((lk B.free k).getD 0 + i) }
noncomputable def Zfv (B:Bk) (v w:AV):Except String Bk :=
  if Zbz B v then
    match Zch B w with
    | none=>.error "NoPact"
    | some (j,x)=>if x.state = .opn then
        match lk x.parts (Zbi v) with
        | none=>.error "NoPart"
        | some i=>if Zbi v∈x.inside then .error "Already" else if Zcc B v < i then .error "TooLittle" else
            .ok { B with pacts:=B.pacts.set j { x with inside:=x.inside ++ [Zbi v] },free:=pt B.free (Zbi v) (Zcc B v - i),aside:=pt B.aside (Zbi v) (Zjq B v + i) }
      else .error "NotOpen"
  else .error "NoPurse"
noncomputable def Zjo (B:Bk) (v w:AV):Except String Bk :=
  if Zbz B v then
    match Zch B w with
    | none=>.error "NoPact"
    | some (j,x)=>if x.state = .opn then
        if Zbi v∈x.inside then .ok (Zh9 { B with pacts:=B.pacts.set j { x with inside:=x.inside.filter (·≠Zbi v) } } (Zbi v) ((lk x.parts (Zbi v)).getD 0)) else .error "NotAside"
      else .error "NotOpen"
  else .error "NoPurse"
structure BkOK (B:Bk):Prop where
  sz:B.Sz
  both:∀ k,hs B.free k=true→hs B.aside k=true
  len:B.pacts.length≤100
  part:∀ (j:Nat) (x:Pc),B.pacts[j]? = some x→∀ k∈x.inside,(lk x.parts k).isSome=true
  inl:∀ (j:Nat) (x:Pc),B.pacts[j]? = some x→x.inside.length≤100∧x.parts.length≤100∧x.gains.length≤100∧x.needs.length≤100
  purse:∀ (j:Nat) (x:Pc),B.pacts[j]? = some x→∀ e:Str×Int,e∈x.parts∨e∈x.gains→hs B.free e.1=true
theorem Zcn {B:Bk} {w:AV} {j:Nat} {x:Pc} (h:Zch B w=some (j,x)):B.pacts[j]? = some x:=by
  unfold Zch at h
  split at h
  · split at h
    · exact (Zco h).1
    · cases h
  · cases h
theorem Zgz {l:List Str} {k:Str}:(Zbx (l.map fun k=>(k,AV.bool true)) k).isSome=decide (k∈l):=by
  unfold Zbx
  induction l with
  | nil=>rfl
  | cons y r ih =>
    rw [List.map_cons,List.find?_cons]
    by_cases e:y=k
    · rw [show decide ((y,AV.bool true).1=k)=true from decide_eq_true e];simp [e]
    · rw [show decide ((y,AV.bool true).1=k)=false from decide_eq_false e]
      refine ih.trans ?_
      simp [show k≠y from fun z=>e z.symm]
theorem Zqi {l:List Str} {k:Str} (h:k∈l):Zbx (l.map fun k=>(k,AV.bool true)) k=some (.bool true):=by
  unfold Zbx
  induction l with
  | nil=>cases h
  | cons y r ih =>
    rw [List.map_cons,List.find?_cons]
    by_cases e:y=k
    · rw [show decide ((y,AV.bool true).1=k)=true from decide_eq_true e];rfl
    · rw [show decide ((y,AV.bool true).1=k)=false from decide_eq_false e]
      exact ih ((List.mem_cons.mp h).resolve_left fun z=>e z.symm)
theorem Zli {l:List Str} {k:Str} (h:k ∉ l):putS (l.map fun k=>(k,AV.bool true)) k (.bool true)=(l ++ [k]).map fun k=>(k,AV.bool true):=by
  unfold putS
  rw [Zgz,decide_eq_false h]
  simp
theorem Zv4 {l:List Str} {k:Str}:((l.map fun k=>(k,AV.bool true)).filter fun e=>decide (e.1≠k))=(l.filter (·≠k)).map fun k=>(k,AV.bool true):=by
  rw [List.filter_map];rfl
section
variable {c:Cx} {P:Pg} (G:Gd c P) (U:HasP P) {n:Nat} {md:Bool} {Q:AV→Zaa→Prop} {E:String→Zaa→Prop} {H:Zaa} {o:Addr→Option Role} {b f s p a:Addr} {as:List Addr} {B:Bk} {j:Nat} {x:Pc}
section
variable {g:Gx} {V:VV} {QN:VV→Zaa→Prop} {i m:Nat} {k:Str} (hP:g.c.P.attrs=BK.attrs) (ib:IsBook o H b f s p as B) (hj:B.pacts[j]? = some x) (ha:as[j]? = some a) (ip:IsPact o H j a x) (hV:V[i]? = some (some (.ref a)))
include hP ib hj ha ip hV
theorem Zo4 (hm:V[m]? = some (some (.str k))) (hk:k ∉ x.inside) (hl:x.inside.length≤100) (q:∀ H',IsBook o H' b f s p as { B with pacts:=B.pacts.set j { x with inside:=x.inside ++ [k] } }→Fr1 o H o H'→QN V H'):wpT g (.sub (.attr (.var i) "inside") (.var m)) (.bool true) V QN E H:=by
  dsimp only [tsub]
  refine Zfh hP ip hV fun z ep hz hd up'=>?_
  simp only [Zae,hm,hd]
  refine ⟨by rw [insD,List.length_map];exact Nat.le_trans hl (by decide),fun ep'=>?_⟩
  rw [insD,Zli hk]
  refine q _ (ib.setPact hj ha (Zh8 fun r hr=>by rw [hz] at hr;cases hr;exact fun w=>w.2 rfl) (up' ep' _) rfl) (Zi3 (by rw [hz];simp))
theorem Zm2 {no:Bool} {e:X} (he:∀ Q',Q' (.str k) H→wpX g e V Q' E H) (q:Q (.bool (decide (k∈x.inside) != no)) H):wpX g (.cmp (if no then .NotIn else .In) e (.attr (.var i) "inside")) V Q E H:=by
  dsimp only [Zap]
  refine he _ (Zfh hP ip hV fun z ep hz hd up'=>?_)
  have:win no (.str k) (.ref z) Q H:=by
    (dsimp only [Zfr];rw [hd])
    show Q (.bool (nt no (Zbx (insD x) k).isSome)) H
    rw [insD,Zgz,← Zn5];exact q
  cases no <;> exact this
end
include G U
omit U in
theorem Zjl {k:Str} {i:Int} (hU:P.fns.lookup "Book.given_back" = some BK.f_Book_given_back) (hA:c.P.attrs=BK.attrs) (ib:IsBook o H b f s p as B) (hz:B.Sz) (hf:hs B.free k=true) (hs':hs B.aside k=true) (q:∀ H',IsBook o H' b f s p as (Zh9 B k i)→Fr1 o H o H'→Q .none H'):CallOK c (n + 1) true "Book.given_back" [.ref b,.str k,.int i] Q E H:=by
  refine G.call (F:=BK.f_Book_given_back) hU rfl ?_
  show wpSs _ _ _ _ _ [some (.ref b),some (.str k),some (.int i)] _
  refine w_st fun K nx=>?_
  dsimp only [Zaj,Zau,Zar]
  refine Zd7 hA ib rfl (Zfd ib (Zgg hs') ?_)
  dsimp only [Zae,List.getElem?_cons_succ,v_0,Zda]
  refine Zja (k:=k) hA ib hz.2 rfl rfl fun H1 ib1 f1=>nx _ _ ?_
  refine w_st fun K nx=>?_
  dsimp only [Zaj,Zau,Zar]
  refine Zcs hA ib1 rfl (Zc5 (v:=(lk B.free k).getD 0) ib1 (Zgg hf) ?_)
  dsimp only [Zae,List.getElem?_cons_succ,v_0,Zb5]
  refine Zhg (k:=k) hA ib1 hz.1 rfl rfl fun H2 ib2 f2=>nx _ _ ?_
  exact q H2 ib2 (f1.trans f2)
theorem Zrs {v w:AV} (hU:P.fns.lookup "Book.set_aside" = some BK.f_Book_set_aside) (hU2:P.fns.lookup "Pact.part_of" = some BK.f_Pact_part_of) (ib:IsBook o H b f s p as B) (hk:Kn H v) (hw:Kn H w) (ok:BkOK B)
    (q:Ends (Zfv B v w) (fun B'=>∀ H',IsBook o H' b f s p as B'→Fr1 o H o H'→Q .none H') (fun cl=>E cl H)):CallOK c (n + 4) true "Book.set_aside" [.ref b,v,w] Q E H:=by
  refine G.call (F:=BK.f_Book_set_aside) hU rfl ?_
  have hA:c.P.attrs=BK.attrs:=by rw [G.hP,U.a.attrs]
  have hM:c.P.meths=BK.meths:=by rw [G.hP,U.a.meths]
  show wpSs _ _ _ _ _ [some (.ref b),some v,some w,none,none] _
  unfold Zfv at q
  refine w_st fun K nx=>?_
  dsimp only [Zal]
  refine Zbh hM (by decide) (by decide) ib rfl ?_
  dsimp only [String.reduceAppend,Zac,Zaf,Zae,List.getElem?_cons_succ,v_0]
  refine Zcb G U.a ib hk ?_
  cases hp:Zbz B v with
  | false=>rw [hp] at q;exact q
  | true =>
  obtain ⟨k,rfl⟩:∃ k,v = .str k:=⟨_,(Zbl hp).1⟩
  have hf:=Zep hp
  have hs':=Zgg (ok.both _ (Zbl hp).2)
  rw [hp] at q
  refine nx _ _ ?_
  refine w_st fun K nx=>?_
  dsimp only [Zaj]
  refine Zbh hM (by decide) (by decide) ib rfl ?_
  dsimp only [String.reduceAppend,tv,List.length_cons,List.length_nil,Nat.reduceAdd,List.set_cons_succ,List.set_cons_zero,Zac,Zaf,Zae,List.getElem?_cons_succ,v_0]
  refine Zeg G U ib hw ?_
  cases e:Zch B w with
  | none=>rw [e] at q;exact q
  | some z =>
  obtain ⟨j,x⟩:=z
  rw [e] at q
  have hj:=Zcn e
  show if x.state = .opn then _ else _
  by_cases ho:x.state = .opn
  case neg =>
    refine Eq.mpr (if_neg ho) ?_
    rw [if_pos rfl] at q
    dsimp only at q
    rw [if_neg ho] at q
    exact q
  refine Eq.mpr (if_pos ho) ?_
  rw [if_pos rfl] at q
  dsimp only at q
  rw [if_pos ho] at q
  intro a ha ip
  refine ⟨by decide,nx _ _ ?_⟩
  refine w_st fun K nx=>?_
  show wpS _ _ _ _ _ [some (.ref b),some (.str k),some w,some (.ref a),none] _
  dsimp only [Zaj]
  refine Zll hA ip rfl hM (by decide) (by decide) ?_
  dsimp only [String.reduceAppend,tv,List.length_cons,List.length_nil,Nat.reduceAdd,List.set_cons_succ,List.set_cons_zero,Zac,Zaf,Zae,List.getElem?_cons_succ,v_0]
  refine Zih G hU2 hA ip ?_
  refine ⟨by decide,nx _ _ ?_⟩
  refine w_st fun K nx=>?_
  cases hl:lk x.parts k with
  | none =>
    have q:E "NoPart" H:=by rw [show Zbi (.str k)=k from rfl,hl] at q;exact q
    exact ⟨rfl,q⟩
  | some i =>
  rw [show Zbi (.str k)=k from rfl,hl] at q
  refine nx _ _ ?_
  refine w_st fun K nx=>?_
  show wpS _ _ _ _ _ [some (.ref b),some (.str k),some w,some (.ref a),some (.int i)] _
  dsimp only [Zay]
  refine Zm2 (no:=false) (k:=k) hA ib hj ha ip rfl (fun Q' h=>h) ?_
  by_cases hi:k∈x.inside
  · rw [decide_eq_true hi]
    have q:E "Already" H:=by simpa only [hi,if_true,Ends] using q
    exact ⟨rfl,q⟩
  rw [decide_eq_false hi]
  have q:Ends (if Zcc B (.str k) < i then .error "TooLittle" else .ok { B with pacts:=B.pacts.set j { x with inside:=x.inside ++ [k] },free:=pt B.free k (Zcc B (.str k) - i),aside:=pt B.aside k (Zjq B (.str k) + i) }) (fun B'=>∀ H',IsBook o H' b f s p as B'→Fr1 o H o H'→Q .none H') (fun cl=>E cl H):=by simpa only [hi,if_false] using q
  refine nx _ _ ?_
  refine w_st fun K nx=>?_
  dsimp only [Zay,Zap,Zar]
  refine Zcs hA ib rfl (Zc5 ib hf ?_)
  dsimp only [Zae,List.getElem?_cons_succ,v_0,c_lt,Zai,decide_eq_true_eq]
  by_cases hlt:Zcc B (.str k) < i
  · rw [decide_eq_true hlt]
    have q:E "TooLittle" H:=by simpa only [hlt,if_true,Ends] using q
    exact ⟨rfl,q⟩
  rw [decide_eq_false hlt]
  have q:∀ H',IsBook o H' b f s p as { B with pacts:=B.pacts.set j { x with inside:=x.inside ++ [k] },free:=pt B.free k (Zcc B (.str k) - i),aside:=pt B.aside k (Zjq B (.str k) + i) }→Fr1 o H o H'→Q .none H':=by simpa only [hlt,if_false,Ends] using q
  refine nx _ _ ?_
  refine w_st fun K nx=>?_
  dsimp only [Zaj,Zah]
  refine Zo4 (k:=k) hA ib hj ha ip rfl rfl hi (ok.inl j x hj).1 fun H1 ib1 f1=>nx _ _ ?_
  refine w_st fun K nx=>?_
  dsimp only [Zaj,Zau,Zar]
  refine Zcs hA ib1 rfl (Zc5 (v:=Zcc B (.str k)) ib1 hf ?_)
  dsimp only [Zae,List.getElem?_cons_succ,v_0,Zda]
  refine Zhg (k:=k) hA ib1 ok.sz.1 rfl rfl fun H2 ib2 f2=>nx _ _ ?_
  refine w_st fun K nx=>?_
  dsimp only [Zaj,Zau,Zar]
  refine Zd7 hA ib2 rfl (Zfd (v:=Zjq B (.str k)) ib2 hs' ?_)
  dsimp only [Zae,List.getElem?_cons_succ,v_0,Zb5]
  refine Zja (k:=k) hA ib2 ok.sz.2 rfl rfl fun H3 ib3 f3=>nx _ _ ?_
  exact q H3 ib3 ((f1.trans f2).trans f3)
end
end Mine
end
section
open PySem PySem.W PyProof.Rows PySem.Spec PySem.SeqAt PySem.Calls
namespace Mine
noncomputable def Zet (x:Pc):Bool:=x.state == .opn && x.inside.length == x.parts.length
theorem Zlb {x:Sta}:(x.str == Str.ofString "open")=(x == .opn):=by cases x <;> decide
theorem Zxt {x:Sta}:(x.str == Str.ofString "done")=(x == .dn):=by cases x <;> decide
theorem Zo3 {x:Sta}:(x.str == Str.ofString "fallen")=(x == .fln):=by cases x <;> decide
section
variable {c:Cx} {P:Pg} (G:Gd c P) (U:HasP P) {n:Nat} {md:Bool} {Q:AV→Zaa→Prop} {E:String→Zaa→Prop} {H:Zaa} {o:Addr→Option Role} {b f s p a:Addr} {as:List Addr} {B:Bk} {j:Nat} {x:Pc}
section
variable {g:Gx} {V:VV} {QN:VV→Zaa→Prop} {i m:Nat} {k:Str} (hP:g.c.P.attrs=BK.attrs) (ib:IsBook o H b f s p as B) (hj:B.pacts[j]? = some x) (ha:as[j]? = some a) (ip:IsPact o H j a x) (hV:V[i]? = some (some (.ref a)))
include hP ib hj ha ip hV
theorem Znu {e:X} (he:∀ Q',Q' (.str k) H→wpX g e V Q' E H) (hk:k∈x.inside) (hl:x.inside.length≤100) (q:∀ H',IsBook o H' b f s p as { B with pacts:=B.pacts.set j { x with inside:=x.inside.filter (·≠k) } }→IsPact o H' j a { x with inside:=x.inside.filter (·≠k) }→Fr1 o H o H'→Q (.bool true) H'):wpX g (.bm (.attr (.var i) "inside") .pop [e]) V Q E H:=by
  dsimp only [x_bm]
  refine Zfh hP ip hV fun z ep hz hd up'=>?_
  refine ⟨?_,?_⟩
  · show match H z with | some (.list _)=>_ | some (.dict _ _)=>_ | _=>False
    rw [hd];first | exact .inr rfl | exact .inr (.inl rfl)
  dsimp only [Zac]
  refine he _ ?_
  (dsimp only [Zaf,Zyx];rw [hd])
  refine ⟨by rw [insD,List.length_map];exact Nat.le_trans hl (by decide),.bool true,Zqi hk,fun ep'=>?_⟩
  rw [insD,Zv4]
  exact q _ (ib.setPact hj ha (Zh8 fun r hr=>by rw [hz] at hr;cases hr;exact fun w=>w.2 rfl) (up' ep' _) rfl) (up' ep' _) (Zi3 (by rw [hz];simp))
end
include G U
set_option tactic.hygienic true in
omit U in
theorem Zoe (hU:P.fns.lookup "Pact.is_full" = some BK.f_Pact_is_full) (hA:c.P.attrs=BK.attrs) (ip:IsPact o H j a x) (h1:x.inside.length≤100) (h2:x.parts.length≤100) (q:Q (.bool (Zet x)) H):CallOK c (n + 1) md "Pact.is_full" [.ref a] Q E H:=by
  refine G.call (F:=BK.f_Pact_is_full) hU rfl ?_
  show wpSs _ _ _ _ _ [some (.ref a)] _
  refine w_st fun K nx=>?_
  dsimp only [Zbt,x_ao,Zaz,Zap]
  refine Zff hA ip rfl ?_
  (dsimp only [Zah,Zcf,Zai];rw [Zlb])
  unfold Zet at q
  cases hs:x.state == Sta.opn with
  | false=>rw [hs] at q;exact q
  | true =>
    rw [hs] at q
    refine Eq.mpr (if_pos rfl) (Eq.mpr (Zba) (Eq.mpr (Zap) (Eq.mpr (Zak) (Eq.mpr (Zac) ?_))))
    refine Zfh hA ip rfl fun z ep hz hd _=>?_
    rw [Zaf,Zgc,hd]
    refine ⟨by rw [insD,List.length_map];exact Nat.lt_of_le_of_lt (by assumption) (by decide),?_⟩
    rw [Zak,Zac]
    refine Zfg hA ip rfl fun z' ⟨_,ts,hts,hl⟩=>?_
    (dsimp only [Zaf,Zgc];rw [hts])
    have e1:=Zdh hl
    refine ⟨by rw [List.length_map];lia,?_⟩
    (dsimp only [c_eq];rw [insD,List.length_map,List.length_map,e1])
    have:(((x.inside.length:Nat):Int) == ((x.parts.length:Nat):Int))=(x.inside.length == x.parts.length):=by
      by_cases h:x.inside.length=x.parts.length
      · rw [h];simp
      · rw [beq_eq_false_iff_ne.mpr h];exact beq_eq_false_iff_ne.mpr fun z=>h (Int.ofNat.inj z)
    rw [this];exact q
theorem Zt1 {v w:AV} (hU:P.fns.lookup "Book.draw_back" = some BK.f_Book_draw_back) (hU2:P.fns.lookup "Pact.part_of" = some BK.f_Pact_part_of) (hU3:P.fns.lookup "Book.given_back" = some BK.f_Book_given_back) (ib:IsBook o H b f s p as B) (hk:Kn H v) (hw:Kn H w) (ok:BkOK B)
    (q:Ends (Zjo B v w) (fun B'=>∀ H',IsBook o H' b f s p as B'→Fr1 o H o H'→Q .none H') (fun cl=>E cl H)):CallOK c (n + 4) true "Book.draw_back" [.ref b,v,w] Q E H:=by
  refine G.call (F:=BK.f_Book_draw_back) hU rfl ?_
  have hA:c.P.attrs=BK.attrs:=by rw [G.hP,U.a.attrs]
  have hM:c.P.meths=BK.meths:=by rw [G.hP,U.a.meths]
  show wpSs _ _ _ _ _ [some (.ref b),some v,some w,none] _
  unfold Zjo at q
  refine w_st fun K nx=>?_
  dsimp only [Zal]
  refine Zbh hM (by decide) (by decide) ib rfl ?_
  dsimp only [String.reduceAppend,Zac,Zaf,Zae,List.getElem?_cons_succ,v_0]
  refine Zcb G U.a ib hk ?_
  cases hp:Zbz B v with
  | false=>rw [hp] at q;exact q
  | true =>
  obtain ⟨k,rfl⟩:∃ k,v = .str k:=⟨_,(Zbl hp).1⟩
  have hf:=(Zbl hp).2
  have hs':=ok.both _ hf
  rw [hp] at q
  refine nx _ _ ?_
  refine w_st fun K nx=>?_
  dsimp only [Zaj]
  refine Zbh hM (by decide) (by decide) ib rfl ?_
  dsimp only [String.reduceAppend,tv,List.length_cons,List.length_nil,Nat.reduceAdd,List.set_cons_succ,List.set_cons_zero,Zac,Zaf,Zae,List.getElem?_cons_succ,v_0]
  refine Zeg G U ib hw ?_
  cases e:Zch B w with
  | none=>rw [e] at q;exact q
  | some z =>
  obtain ⟨j,x⟩:=z
  rw [e] at q
  have hj:=Zcn e
  show if x.state = .opn then _ else _
  by_cases ho:x.state = .opn
  case neg =>
    refine Eq.mpr (if_neg ho) ?_
    rw [if_pos rfl] at q
    dsimp only at q
    rw [if_neg ho] at q
    exact q
  refine Eq.mpr (if_pos ho) ?_
  rw [if_pos rfl] at q
  dsimp only at q
  rw [if_pos ho] at q
  intro a ha ip
  refine ⟨by decide,nx _ _ ?_⟩
  refine w_st fun K nx=>?_
  show wpS _ _ _ _ _ [some (.ref b),some (.str k),some w,some (.ref a)] _
  dsimp only [Zay]
  refine Zm2 (no:=true) (k:=k) hA ib hj ha ip rfl (fun Q' h=>h) ?_
  by_cases hi:k∈x.inside
  case neg =>
    rw [decide_eq_false hi]
    rw [if_neg (show Zbi (.str k) ∉ x.inside from hi)] at q
    exact ⟨rfl,q⟩
  rw [decide_eq_true hi]
  rw [if_pos (show Zbi (.str k)∈x.inside from hi)] at q
  have q:∀ H',IsBook o H' b f s p as (Zh9 { B with pacts:=B.pacts.set j { x with inside:=x.inside.filter (·≠k) } } k ((lk x.parts k).getD 0))→Fr1 o H o H'→Q .none H':=q
  refine nx _ _ ?_
  refine w_st fun K nx=>?_
  dsimp only [Zal]
  refine Znu (k:=k) hA ib hj ha ip rfl (fun Q' h=>h) hi (ok.inl j x hj).1 fun H1 ib1 ip1 f1=>nx _ _ ?_
  refine w_st fun K nx=>?_
  dsimp only [Zal]
  refine Zbh hM (by decide) (by decide) ib1 rfl ?_
  refine Eq.mpr (Zac) (Eq.mpr (Zae) ?_)
  show wpXs _ [.meth (.var 3) "part_of" [.var 1]] _ _ _ _
  dsimp only [Zac]
  refine Zll hA ip1 rfl hM (by decide) (by decide) ?_
  dsimp only [String.reduceAppend,Zaf,Zac,Zae,List.getElem?_cons_succ,v_0]
  refine Zih G hU2 hA ip1 ?_
  obtain ⟨i,hl⟩:=Option.isSome_iff_exists.mp (ok.part j x hj k hi)
  rw [hl] at q
  show CallOK _ _ _ _ [.ref b,.str k,match lk x.parts k with | some i=>.int i | none=>.none] _ _ _
  rw [hl]
  exact Zjl G hU3 hA ib1 ok.sz hf hs' fun H2 ib2 f2=>nx _ _ (q H2 ib2 (f1.trans f2))
theorem Zjz {v:AV} (hU:P.fns.lookup "Book.state_of" = some BK.f_Book_state_of) (ib:IsBook o H b f s p as B) (hk:Kn H v) (q:match Zch B v with | some (j,x)=>Q (.str x.state.str) H | none=>E "NoPact" H):CallOK c (n + 3) true "Book.state_of" [.ref b,v] Q E H:=by
  refine G.call (F:=BK.f_Book_state_of) hU rfl ?_
  have hA:c.P.attrs=BK.attrs:=by rw [G.hP,U.a.attrs]
  have hM:c.P.meths=BK.meths:=by rw [G.hP,U.a.meths]
  show wpSs _ _ _ _ _ [some (.ref b),some v] _
  refine w_st fun K nx=>?_
  dsimp only [Zbt,Za3]
  refine Zbh hM (by decide) (by decide) ib rfl ?_
  dsimp only [String.reduceAppend,Zac,Zaf,Zae,List.getElem?_cons_succ,v_0]
  refine Zef G U ib hk ?_
  cases e:Zch B v with
  | none=>rw [e] at q;exact q
  | some z =>
    obtain ⟨j,x⟩:=z
    rw [e] at q
    intro a ha ip
    obtain ⟨pa,ga,ne,ins,ep,h,_⟩:=ip.at_
    show match H a with | some (.inst _ _)=>_ | some (.book _)=>_ | _=>False
    rw [h];exact ⟨by rw [hA];rfl,q⟩
end
end Mine
end
section
open PySem PySem.W PyProof.Rows PySem.Spec PySem.SeqAt PySem.Calls
namespace Mine
noncomputable def Zcv (ins:List Str):List (Str×Int)→Bk→Bk
  | [],B=>B
  | e :: l,B=>Zcv ins l (if e.1∈ins then Zh9 B e.1 e.2 else B)
noncomputable def Zfs (B:Bk) (j:Nat) (x:Pc):Bk:={ Zcv x.inside x.parts B with pacts:=B.pacts.set j { x with inside:=[],state:=.fln } }
theorem Zei {ins:List Str} {e:Str×Int}:∀ {l:List (Str×Int)} {B:Bk},Zcv ins (l ++ [e]) B=(if e.1∈ins then Zh9 (Zcv ins l B) e.1 e.2 else Zcv ins l B)
  | [],B=>rfl
  | e' :: l,B=>Zei (l:=l)
theorem Zed {l:List (Str×Int)} {k:Str} {x:Int} (h:hs l k=true):(pt l k x).length=l.length∧∀ s,hs (pt l k x) s=hs l s:=by
  refine ⟨?_,fun s=>?_⟩
  · unfold pt;rw [if_pos (show (lk l k).isSome=true from h),List.length_map]
  · rw [Z0z]
    by_cases e:s=k
    · rw [e,h];simp
    · simp [e]
structure SameB (B B':Bk):Prop where
  day:B'.day=B.day
  fl:B'.free.length=B.free.length
  al:B'.aside.length=B.aside.length
  fh:∀ s,hs B'.free s=hs B.free s
  ah:∀ s,hs B'.aside s=hs B.aside s
theorem SameB.refl {B:Bk}:SameB B B:=⟨rfl,rfl,rfl,fun _=>rfl,fun _=>rfl⟩
theorem SameB.trans {B B' B'':Bk} (x:SameB B B') (y:SameB B' B''):SameB B B'':=⟨y.day.trans x.day,y.fl.trans x.fl,y.al.trans x.al,fun s=>(y.fh s).trans (x.fh s),fun s=>(y.ah s).trans (x.ah s)⟩
theorem SameB.give {B:Bk} {k:Str} {i:Int} (h:hs B.free k=true) (h':hs B.aside k=true):SameB B (Zh9 B k i):=⟨rfl,(Zed h).1,(Zed h').1,(Zed h).2,(Zed h').2⟩
theorem SameB.all {ins:List Str}:∀ {l:List (Str×Int)} {B:Bk},(∀ e∈l,hs B.free e.1=true∧hs B.aside e.1=true)→SameB B (Zcv ins l B)∧(Zcv ins l B).pacts=B.pacts
  | [],B,_=>⟨.refl,rfl⟩
  | e :: l,B,h=>by
    have h0:=h e List.mem_cons_self
    unfold Zcv
    by_cases hi:e.1∈ins
    · rw [if_pos hi]
      have s1:=SameB.give (i:=e.2) h0.1 h0.2
      obtain ⟨s2,p2⟩:=SameB.all (ins:=ins) (l:=l) (B:=Zh9 B e.1 e.2) fun e' he=>by rw [s1.fh,s1.ah];exact h e' (List.mem_cons_of_mem _ he)
      exact ⟨s1.trans s2,p2⟩
    · rw [if_neg hi]
      exact SameB.all fun e' he=>h e' (List.mem_cons_of_mem _ he)
theorem BkOK.keep {B B':Bk} (ok:BkOK B) (sm:SameB B B') (hl:B'.pacts.length=B.pacts.length) (hp:∀ (j:Nat) (y:Pc),B'.pacts[j]? = some y→∃ x,B.pacts[j]? = some x∧y.parts=x.parts∧y.gains=x.gains∧y.needs=x.needs∧∀ k∈y.inside,(lk x.parts k).isSome=true) (hi:∀ (j:Nat) (y:Pc),B'.pacts[j]? = some y→y.inside.length≤100):BkOK B':=by
  refine ⟨⟨by rw [sm.fl];exact ok.sz.1,by rw [sm.al];exact ok.sz.2⟩,fun k h=>?_,by rw [hl];exact ok.len,fun j y hy k hk=>?_,fun j y hy=>?_,fun j y hy e he=>?_⟩
  · rw [sm.ah];rw [sm.fh] at h;exact ok.both k h
  · obtain ⟨x,h1,h2,h3,h4,h5⟩:=hp j y hy
    rw [h2];exact h5 k hk
  · obtain ⟨x,h1,h2,h3,h4,h5⟩:=hp j y hy
    have:=ok.inl j x h1
    exact ⟨hi j y hy,by rw [h2];exact this.2.1,by rw [h3];exact this.2.2.1,by rw [h4];exact this.2.2.2⟩
  · obtain ⟨x,h1,h2,h3,h4,h5⟩:=hp j y hy
    rw [h2,h3] at he
    rw [sm.fh];exact ok.purse j x h1 e he
set_option tactic.hygienic true in
theorem Zjc {ps:List Pc} {j m:Nat} {x' y:Pc} (h:(ps.set j x')[m]? = some y):(m=j∧y=x'∧j < ps.length)∨(m≠j∧ps[m]? = some y):=by
  rw [List.getElem?_set] at h
  by_cases e:j=m
  · rw [if_pos e] at h
    split at h
    · cases h;exact .inl ⟨e.symm,rfl,by assumption⟩
    · cases h
  · rw [if_neg e] at h;exact .inr ⟨fun z=>e z.symm,h⟩
theorem BkOK.giveAble {B:Bk} {j:Nat} {x:Pc} (ok:BkOK B) (hj:B.pacts[j]? = some x):∀ e∈x.parts,hs B.free e.1=true∧hs B.aside e.1=true:=fun e he=>have h:=ok.purse j x hj e (.inl he);⟨h,ok.both _ h⟩
theorem BkOK.fell {B:Bk} {j:Nat} {x:Pc} (ok:BkOK B) (hj:B.pacts[j]? = some x):BkOK (Zfs B j x):=by
  obtain ⟨sm,hp⟩:=SameB.all (ins:=x.inside) (ok.giveAble hj)
  refine ok.keep ⟨sm.day,sm.fl,sm.al,sm.fh,sm.ah⟩ List.length_set (fun m y hy=>?_) fun m y hy=>?_
  · rcases Zjc hy with ⟨rfl,rfl,_⟩ | ⟨_,h⟩
    · exact ⟨x,hj,rfl,rfl,rfl,fun k hk=>by cases hk⟩
    · exact ⟨y,h,rfl,rfl,rfl,ok.part m y h⟩
  · rcases Zjc hy with ⟨rfl,rfl,_⟩ | ⟨_,h⟩
    · exact Nat.zero_le _
    · exact (ok.inl m y h).1
section
variable {c:Cx} {P:Pg} (G:Gd c P) (U:HasP P) {n:Nat} {md:Bool} {Q:AV→Zaa→Prop} {E:String→Zaa→Prop} {H:Zaa} {o:Addr→Option Role} {b f s p a:Addr} {as:List Addr} {B:Bk} {j:Nat} {x:Pc}
theorem IsBook.pact (ib:IsBook o H b f s p as B) (hj:B.pacts[j]? = some x) (ha:as[j]? = some a):IsPact o H j a x:=by
  obtain ⟨a',h1,h2⟩:=Zcu ib.ps hj
  rw [ha] at h1;cases h1
  rw [Nat.zero_add] at h2;exact h2
noncomputable def KD (o:Addr→Option Role) (H H':Zaa):Prop:=∀ y,o y=some .data→H' y=H y
theorem KD.up {y:Addr} {z:AObj} {r:Role} (h:o y=some r) (hr:r≠.data):KD o H (up H y z):=fun w hw=>Zab fun e=>by subst e;rw [h] at hw;cases hw;exact hr rfl
theorem KD.trans {H' H'':Zaa} (h:KD o H H') (h':KD o H' H''):KD o H H'':=fun y hy=>(h' y hy).trans (h y hy)
include G U
omit U in
theorem Zjm {k:Str} {i:Int} (hU:P.fns.lookup "Book.given_back" = some BK.f_Book_given_back) (hA:c.P.attrs=BK.attrs) (ib:IsBook o H b f s p as B) (hz:B.Sz) (hf:hs B.free k=true) (hs':hs B.aside k=true) (q:∀ H',IsBook o H' b f s p as (Zh9 B k i)→Fr1 o H o H'→KD o H H'→Q .none H'):CallOK c (n + 1) true "Book.given_back" [.ref b,.str k,.int i] Q E H:=by
  refine G.call (F:=BK.f_Book_given_back) hU rfl ?_
  show wpSs _ _ _ _ _ [some (.ref b),some (.str k),some (.int i)] _
  obtain ⟨ef,hf0⟩:=ib.hf
  obtain ⟨es,hs0⟩:=ib.hs
  have hfs:f≠s:=Zb7 ib.of ib.os (by intro h;cases h)
  refine w_st fun K nx=>?_
  dsimp only [Zaj,Zau,Zar]
  refine Zd7 hA ib rfl (Zfd ib (Zgg hs') ?_)
  dsimp only [Zae,List.getElem?_cons_succ,v_0,Zda]
  dsimp only [tsub]
  refine Zd7 hA ib rfl ?_
  dsimp only [Nat.reducePow,Zae,List.getElem?_cons_succ,v_0]
  rw [hs0]
  refine ⟨by rw [Ziy];exact hz.2,fun e1=>nx _ _ ?_⟩
  rw [Zig]
  have ib1:=ib.setAside e1 (pt B.aside k ((lk B.aside k).getD 0 - i))
  refine w_st fun K nx=>?_
  dsimp only [Zaj,Zau,Zar]
  refine Zcs hA ib1 rfl (Zc5 (v:=(lk B.free k).getD 0) ib1 (Zgg hf) ?_)
  dsimp only [Zae,List.getElem?_cons_succ,v_0,Zb5]
  dsimp only [tsub]
  refine Zcs hA ib1 rfl ?_
  dsimp only [Nat.reducePow,Zae,List.getElem?_cons_succ,v_0]
  rw [Zab hfs,hf0]
  refine ⟨by rw [Ziy];exact hz.1,fun e2=>nx _ _ ?_⟩
  rw [Zig]
  exact q _ (ib1.setFree e2 _) ((Zi3 (by rw [ib.os];simp)).trans (Zi3 (by rw [ib.of];simp))) ((KD.up ib.os (by intro h;cases h)).trans (KD.up ib.of (by intro h;cases h)))
theorem Zl4 (hU:P.fns.lookup "Book.fell" = some BK.f_Book_fell) (hU2:P.fns.lookup "Book.given_back" = some BK.f_Book_given_back) (ib:IsBook o H b f s p as B) (ok:BkOK B) (hj:B.pacts[j]? = some x) (ha:as[j]? = some a)
    (q:∀ o' H',IsBook o' H' b f s p as (Zfs B j x)→Fr1 o H o' H'→Q (.str x.name) H'):CallOK c (n + 2) true "Book.fell" [.ref b,.ref a] Q E H:=by
  refine G.call (F:=BK.f_Book_fell) hU rfl ?_
  have hA:c.P.attrs=BK.attrs:=by rw [G.hP,U.a.attrs]
  have hM:c.P.meths=BK.meths:=by rw [G.hP,U.a.meths]
  have hC:∀ n,BK.attrs.contains ("Pact",n)=true→c.P.attrs.contains ("Pact",n)=true:=fun n h=>by rw [hA];exact h
  show wpSs _ _ _ _ _ [some (.ref b),some (.ref a),none] _
  have able:=ok.giveAble hj
  refine w_st fun K nx=>?_
  dsimp only [Zbd]
  refine ⟨rfl,?_⟩
  refine Zfg hA (ib.pact hj ha) rfl fun z ⟨hz,ts,hts,hl⟩=>?_
  refine Zd0 (xs:=ts.map .ref) (by simp only [Zas,hts]) (fun m V' H'=>(∃ pr,V'=[some (.ref b),some (.ref a),pr])∧IsBook o H' b f s p as (Zcv x.inside (x.parts.take m) B)∧Fr1 o H o H'∧KD o H H') ⟨⟨_,rfl⟩,by rw [List.take_zero];exact ib,.refl,fun _ _=>rfl⟩ ?_
  rintro I hI m V' H' ⟨⟨pr,rfl⟩,ib',fr',kd'⟩
  obtain ⟨sm,hp⟩:=SameB.all (ins:=x.inside) (l:=x.parts.take m) (B:=B) fun e he=>able e (List.mem_of_mem_take he)
  have hj':(Zcv x.inside (x.parts.take m) B).pacts[j]? = some x:=by rw [hp];exact hj
  refine ⟨kd' z hz,fun hlen=>?_,fun y hy=>?_⟩
  · rw [hlen,List.length_map,Zdh hl,List.take_length] at ib' sm hp hj'
    refine nx _ _ ?_
    obtain ⟨h0,pa,ga,ne,ins,ep,h,h1,h2,h3,h4,h5,h6⟩:=ib'.pact hj' ha
    refine w_st fun K nx=>?_
    dsimp only [Zaj,Zao]
    intro w hw
    have haw:a≠w:=fun e=>by rw [e,hw] at h;cases h
    refine st_a rfl (hC _ rfl) (by rw [Zab haw];exact h) (by exact (show 7≤100 by decide)) (nx _ _ ?_)
    refine w_st fun K nx=>?_
    dsimp only [Zaj,Zah]
    refine st_a rfl (hC _ rfl) Zad (by exact (show 7≤100 by decide)) (nx _ _ ?_)
    have kb0:KB (fun _=>True) o (fun y=>if y=w then some (.inside j) else o y) H' (Mine.up H' w (.dict 0 [])):=fun y r v _ hr hv _=>by
      have:y≠w:=fun e=>by rw [e,hw] at hv;cases hv
      exact ⟨(if_neg this).trans hr,by rw [Zab this];exact hv⟩
    have ib1:=ib'.congr kb0
    generalize ho:(fun y=>if y=w then some (Role.inside j) else o y)=o' at kb0 ib1
    have hoa:o' a=some (.pact j):=by rw [← ho];exact (if_neg haw).trans h0
    have how:o' w=some (.inside j):=by rw [← ho];exact if_pos rfl
    have kb1:∀ {X:Zaa} {y:AObj},KB (fun r=>r≠.pact j∧r≠.inside j) o' o' X (Mine.up X a y):=Zh8 fun r hr=>by rw [hoa] at hr;cases hr;exact fun z=>z.1 rfl
    have kbd:∀ {X:Zaa} {y:AObj},KB (fun r=>r = .data) o' o' X (Mine.up X a y):=Zh8 fun r hr=>by rw [hoa] at hr;cases hr;exact fun z=>by cases z
    have kb0':KB (fun r=>r = .data) o o' H' (Mine.up H' w (.dict 0 [])):=fun y r v _ hr hv hb=>kb0 y r v trivial hr hv hb
    have ip:IsPact o' (Mine.up (Mine.up (Mine.up H' w (.dict 0 [])) a (.inst "Pact" (putA [("name",.str x.name),("parts",.ref pa),("gains",.ref ga),("needs",.ref ne),("last",.int x.last),("state",.str x.state.str),("inside",.ref ins)] "inside" (.ref w)))) a (.inst "Pact" (putA (putA [("name",.str x.name),("parts",.ref pa),("gains",.ref ga),("needs",.ref ne),("last",.int x.last),("state",.str x.state.str),("inside",.ref ins)] "inside" (.ref w)) "state" (.str (Str.ofString "fallen"))))) j a { x with inside:=[],state:=.fln }:=by
      refine ⟨hoa,pa,ga,ne,w,0,Zad,((h1.congr kb0' rfl).congr kbd rfl).congr kbd rfl,((h2.congr kb0' rfl).congr kbd rfl).congr kbd rfl,?_,?_,how,?_⟩
      · exact (kb0' ne _ _ rfl h3 h4 rfl).1
      · have:=kb0' ne _ _ rfl h3 h4 rfl
        have hna:ne≠a:=Zb7 this.1 hoa (by intro z;cases z)
        rw [Zab hna,Zab hna];exact this.2
      · rw [Zab haw.symm,Zab haw.symm,Zad];rfl
    refine w_st fun K nx=>?_
    dsimp only [Zbt]
    refine Zji hA ip rfl ?_
    have ib2:=ib1.setPact hj' ha (fun y r v hr ho hv hb=>kb1 y r v hr ho (kb1 y r v hr ho hv hb).2 hb) ip rfl
    rw [hp] at ib2
    refine q o' _ ib2 (fr'.trans ⟨fun y v hy ho'=>?_,fun y h=>Zde (Zde (Zde h))⟩)
    have hyw:y≠w:=fun e=>by rw [e,hw] at hy;cases hy
    have hya:y≠a:=fun e=>by rw [e,h0] at ho';cases ho'
    exact ⟨by rw [Zab hya,Zab hya,Zab hyw];exact hy,by rw [← ho];exact (if_neg hyw).trans ho'⟩
  · rw [List.getElem?_map,Option.map_eq_some_iff] at hy
    obtain ⟨t,ht,rfl⟩:=hy
    obtain ⟨e,he,htd,htt⟩:=Zdw hl ht
    have htt':H' t=some (.tuple [.str e.1,.int e.2]):=by rw [kd' t htd];exact htt
    refine ⟨show 2 < 3 by decide,?_⟩
    refine w_st fun K nx=>?_
    show wpS _ _ _ _ _ [some (.ref b),some (.ref a),some (.ref t)] _
    have hsplit:x.parts.take (m + 1)=x.parts.take m ++ [e]:=by rw [List.take_add_one,he];rfl
    dsimp only [Zay]
    refine Zm2 (no:=false) (k:=e.1) hA ib' hj' ha (ib'.pact hj' ha) rfl (fun Q' h=>Zjh htt' h) ?_
    by_cases hi:e.1∈x.inside
    · rw [decide_eq_true hi]
      show wpSs _ _ _ _ _ [some (.ref b),some (.ref a),some (.ref t)] _
      refine w_st fun K2 nx2=>?_
      dsimp only [Zal]
      refine Zbh hM (by decide) (by decide) ib' rfl ?_
      refine Eq.mpr (Zac) (Eq.mpr (Zar) ?_)
      refine Zjh htt' ?_
      rw [Zac,Zar]
      refine Zss htt' ?_
      have hem:e∈x.parts:=List.mem_of_getElem? he
      refine Zjm G hU2 hA ib' ⟨by rw [sm.fl];exact ok.sz.1,by rw [sm.al];exact ok.sz.2⟩ (by rw [sm.fh];exact (able e hem).1) (by rw [sm.ah];exact (able e hem).2) fun H2 ib2 fr2 kd2=>nx2 _ _ (nx _ _ (hI _ _ _ ⟨⟨_,rfl⟩,?_,fr'.trans fr2,kd'.trans kd2⟩))
      rw [hsplit,Zei,if_pos hi];exact ib2
    · rw [decide_eq_false hi]
      refine nx _ _ (hI _ _ _ ⟨⟨_,rfl⟩,?_,fr',kd'⟩)
      rw [hsplit,Zei,if_neg hi];exact ib'
end
end Mine
end
section
open PySem PySem.W PyProof.Rows PySem.Spec PySem.SeqAt PySem.Calls
namespace Mine
noncomputable def fAt (g:Pc→Bool):List Pc→Option (Nat×Pc)
  | []=>none
  | q :: r=>if g q then some (0,q) else (fAt g r).map fun e=>(e.1 + 1,e.2)
theorem Zq6 {g:Pc→Bool}:∀ {ps:List Pc} {m:Nat} {x:Pc},(∀ i y,i < m→ps[i]? = some y→g y=false)→ps[m]? = some x→g x=true→fAt g ps=some (m,x)
  | q :: r,0,x,_,h,hg=>by cases h;unfold fAt;rw [if_pos hg]
  | q :: r,m + 1,x,hi,h,hg=>by
    unfold fAt
    rw [if_neg (by rw [hi 0 q (Nat.succ_pos m) rfl];decide),Zq6 (ps:=r) (m:=m) (fun i y hm hy=>hi (i + 1) y (Nat.succ_lt_succ hm) hy) h hg];rfl
  | [],_,_,_,h,_=>by cases h
theorem Znb {g:Pc→Bool}:∀ {ps:List Pc},(∀ (i:Nat) y,ps[i]? = some y→g y=false)→fAt g ps=none
  | [],_=>rfl
  | q :: r,h=>by
    unfold fAt
    rw [if_neg (by rw [h 0 q rfl];decide),Znb (ps:=r) fun i y hy=>h (i + 1) y hy];rfl
theorem Zq7 {g:Pc→Bool} {ps:List Pc} {m:Nat} {x:Pc} (h:fAt g ps=some (m,x)):ps[m]? = some x∧g x=true:=by
  induction ps generalizing m with
  | nil=>cases h
  | cons q r ih =>
    unfold fAt at h
    by_cases hg:g q=true
    · rw [if_pos hg] at h;cases h;exact ⟨rfl,hg⟩
    · rw [if_neg hg] at h
      obtain ⟨⟨m',x'⟩,h1,h2⟩:=Option.map_eq_some_iff.mp h
      cases h2
      exact ih h1
noncomputable def Zce (B:Bk) (k:Str):Bool:=match pAt B.pacts k with
  | some e=>e.2.state == .fln
  | none=>false
noncomputable def Zl6 (B:Bk) (x:Pc):Bool:=x.state == .opn && x.needs.any (Zce B)
noncomputable def Zdy (B:Bk):Option (Nat×Pc):=fAt (Zl6 B) B.pacts
noncomputable def Zcw:Nat→Bk→List Str→Bk×List Str
  | 0,B,l=>(B,l)
  | n + 1,B,l=>match Zdy B with
    | none=>(B,l)
    | some e=>Zcw n (Zfs B e.1 e.2) (l ++ [e.2.name])
noncomputable def Zsv (B:Bk):Nat:=B.pacts.countP fun q=>q.state == .opn
theorem Zom {g:Pc→Bool} {ps:List Pc} {j:Nat} {x x':Pc} (h:ps[j]? = some x) (h1:g x=true) (h2:g x'=false):(ps.set j x').countP g + 1=ps.countP g:=by
  induction ps generalizing j with
  | nil=>cases h
  | cons q r ih =>
    cases j with
    | zero=>cases h;rw [List.set_cons_zero,List.countP_cons_of_neg (by rw [h2];exact Bool.false_ne_true),List.countP_cons_of_pos h1]
    | succ j=>rw [List.set_cons_succ,List.countP_cons,List.countP_cons,Nat.add_right_comm,ih h]
theorem Znx {B:Bk} {j:Nat} {x:Pc} (h:B.pacts[j]? = some x) (ho:(x.state == .opn)=true):Zsv (Zfs B j x) + 1=Zsv B:=Zom h ho rfl
section
variable {o:Addr→Option Role} {H:Zaa} {b f s p:Addr} {as:List Addr} {B:Bk}
theorem Zf8:∀ {i:Nat} {as:List Addr} {ps:List Pc},pactsAt o H i as ps→(dP ps as).map (·.2)=as.map AV.ref∧as.length=ps.length
  | _,[],[],_=>⟨rfl,rfl⟩
  | i,a :: as,q :: qs,h=>by
    obtain ⟨h1,h2⟩:=Zf8 h.2
    exact ⟨by rw [dP,List.map_cons,h1];rfl,congrArg Nat.succ h2⟩
  | _,[],_ :: _,h=>h.elim
  | _,_ :: _,[],h=>h.elim
theorem IsBook.upN (ib:IsBook o H b f s p as B) {z:Addr} (hz:o z=none) (y:AObj):IsBook o (up H z y) b f s p as B :=
  ib.congr fun a r v _ hr hv _=>⟨hr,by rw [Zab (fun e=>by rw [e,hz] at hr;cases hr)];exact hv⟩
end
section
variable {c:Cx} {P:Pg} (G:Gd c P) (U:HasP P) {n:Nat} {md:Bool} {Q:AV→Zaa→Prop} {E:String→Zaa→Prop} {H:Zaa} {o:Addr→Option Role} {b f s p a:Addr} {as:List Addr} {B:Bk} {j:Nat} {x:Pc}
theorem Zg6 {g:Gx} {V:VV} {i:Nat} (hP:g.c.P.attrs=BK.attrs) (hmd:g.md=true) (ib:IsBook o H b f s p as B) (hl:B.pacts.length≤100) (hV:V[i]? = some (some (.ref b)))
    (q:∀ z o' H',H z=none→o' z=none→H' z=some (.list (as.map .ref))→IsBook o' H' b f s p as B→Fr1 o H o' H'→Q (.ref z) H'):wpX g (.prim .list [.bm (.attr (.var i) "pacts") .values []]) V Q E H:=by
  obtain ⟨ep,hp⟩:=ib.hp
  obtain ⟨e1,e2⟩:=Zf8 ib.ps
  have e3:(dP B.pacts as).length=as.length:=by have:=congrArg List.length e1;simpa using this
  dsimp only [Zak,Zac,x_bm]
  refine Zcz hP ib hV ⟨?_,?_⟩
  · show match H p with | some (.list _)=>_ | some (.dict _ _)=>_ | _=>False
    rw [hp];exact .inl rfl
  (dsimp only [Zaf,Zyw];rw [hp])
  intro z1 hz1
  have hpz:p≠z1:=fun e=>by rw [e,hz1] at hp;cases hp
  obtain ⟨ib1,f1⟩:=ib.fresh hz1 (.vals p)
  (dsimp only [Zaf,Zf0];rw [Zad])
  show match up H z1 (.vals p) p with | some (.dict _ _)=>_ | _=>False
  rw [Zab hpz,hp]
  refine ⟨hmd,by rw [e3,e2];exact Nat.le_trans hl (by decide),fun z2 hz2=>?_⟩
  obtain ⟨ib2,f2⟩:=ib1.fresh hz2 (.list ((dP B.pacts as).map (·.2)))
  have hz0:H z2=none:=by
    have hne:z2≠z1:=fun e=>by rw [e,Zad] at hz2;cases hz2
    rw [Zab hne] at hz2;exact hz2
  exact q z2 _ _ hz0 (if_pos rfl) (by rw [Zad,e1]) ib2 (f1.trans f2)
theorem Zj8 {g:Gx} {V:VV} {e:X} (hP:g.c.P.attrs=BK.attrs) (ip:IsPact o H j a x) (he:∀ Q':AV→Zaa→Prop,Q' (.ref a) H→wpX g e V Q' E H) (q:Q (.str x.state.str) H):wpX g (.attr e "state") V Q E H:=by
  obtain ⟨pa,ga,ne,ins,ep,h,_⟩:=ip.at_
  dsimp only [Za3]
  refine he _ ?_
  show match H a with | some (.inst _ _)=>_ | some (.book _)=>_ | _=>False
  rw [h];exact ⟨by rw [hP];rfl,q⟩
include G U
theorem Zd9 (hU:P.fns.lookup "Book.first_dragged" = some BK.f_Book_first_dragged) (ib:IsBook o H b f s p as B) (ok:BkOK B)
    (q:∀ o' H',IsBook o' H' b f s p as B→Fr1 o H o' H'→match Zdy B with | some e=>∀ a,as[e.1]? = some a→Q (.ref a) H' | none=>Q .none H'):CallOK c (n + 1) true "Book.first_dragged" [.ref b] Q E H:=by
  refine G.call (F:=BK.f_Book_first_dragged) hU rfl ?_
  have hA:c.P.attrs=BK.attrs:=by rw [G.hP,U.a.attrs]
  show wpSs _ _ _ _ _ [some (.ref b),none,none] _
  refine w_st fun K nx=>?_
  dsimp only [Zbd]
  refine ⟨rfl,?_⟩
  refine Zg6 hA rfl ib ok.len rfl fun z o' H1 _ hzo hz1 ib1 f1=>?_
  have q:=q o' H1 ib1 f1
  obtain ⟨_,e2⟩:=Zf8 ib1.ps
  refine Zd0 (xs:=as.map .ref) (by simp only [Zas,hz1]) (fun m V' H'=>H'=H1∧(∃ p1 p2,V'=[some (.ref b),p1,p2])∧∀ i y,i < m→B.pacts[i]? = some y→Zl6 B y=false) ⟨rfl,⟨_,_,rfl⟩,fun i y h=>absurd h (Nat.not_lt_zero i)⟩ ?_
  rintro I hI m V' H' ⟨rfl,⟨p1,p2,rfl⟩,hm⟩
  refine ⟨rfl,fun hlen=>?_,fun y hy=>?_⟩
  · rw [List.length_map,e2] at hlen
    have:Zdy B=none:=Znb fun i y hy=>hm i y (by rw [hlen];exact (List.getElem?_eq_some_iff.mp hy).1) hy
    rw [this] at q
    exact nx _ _ q
  rw [List.getElem?_map,Option.map_eq_some_iff] at hy
  obtain ⟨a,ha,rfl⟩:=hy
  obtain ⟨x,hx⟩:∃ x,B.pacts[m]? = some x:=⟨B.pacts[m]'(by rw [← e2];exact (List.getElem?_eq_some_iff.mp ha).1),List.getElem?_eq_getElem _⟩
  have ip:=ib1.pact hx ha
  refine ⟨show 1 < 3 by decide,?_⟩
  refine w_st fun K2 nx2=>?_
  show wpS _ _ _ _ _ [some (.ref b),some (.ref a),p2] _
  dsimp only [Zay,Zap]
  refine Zff hA ip rfl ?_
  (dsimp only [Zah,Zcf,Zai];rw [Zlb])
  have next:Zl6 B x=false→I (m + 1) [some (.ref b),some (.ref a),p2] H':=fun h=>hI _ _ _ ⟨rfl,⟨_,_,rfl⟩,fun i y hi hy=>by
    rcases Nat.lt_succ_iff_lt_or_eq.mp hi with h' | h'
    · exact hm i y h' hy
    · subst h';rw [hx] at hy;cases hy;exact h⟩
  cases hs:x.state == Sta.opn with
  | false=>exact nx2 _ _ (next (by unfold Zl6;rw [hs];rfl))
  | true =>
  show wpSs _ _ _ _ _ [some (.ref b),some (.ref a),p2] _
  refine w_st fun K3 nx3=>?_
  dsimp only [Zbd]
  refine ⟨rfl,?_⟩
  refine Zml hA ip rfl fun zn _ hzn=>?_
  refine Zd0 (xs:=txs x.needs) (by simp only [Zas,hzn]) (fun i V' H2=>H2=H'∧(∃ p2,V'=[some (.ref b),some (.ref a),p2])∧∀ i' k,i' < i→x.needs[i']? = some k→Zce B k=false) ⟨rfl,⟨_,rfl⟩,fun i y h=>absurd h (Nat.not_lt_zero i)⟩ ?_
  rintro J hJ i V' H2 ⟨rfl,⟨p3,rfl⟩,hi⟩
  refine ⟨rfl,fun hlen=>?_,fun y hy=>?_⟩
  · rw [Zan] at hlen
    refine nx3 _ _ (nx2 _ _ ?_)
    refine hI _ _ _ ⟨rfl,⟨_,_,rfl⟩,fun i' y hi' hy=>?_⟩
    rcases Nat.lt_succ_iff_lt_or_eq.mp hi' with h' | h'
    · exact hm i' y h' hy
    · subst h';rw [hx] at hy;cases hy
      unfold Zl6;rw [hs,Bool.true_and,List.any_eq_false]
      intro k hk
      obtain ⟨i2,h2,h3⟩:=List.mem_iff_getElem.mp hk
      rw [hi i2 k (by rw [hlen];exact h2) (by rw [List.getElem?_eq_getElem h2,h3])];decide
  obtain ⟨k,rfl,hk⟩:=Zi4 hy
  refine ⟨show 2 < 3 by decide,?_⟩
  refine w_st fun K4 nx4=>?_
  show wpS _ _ _ _ _ [some (.ref b),some (.ref a),some (.str k)] _
  have nextJ:Zce B k=false→J (i + 1) [some (.ref b),some (.ref a),some (.str k)] H2:=fun h=>hJ _ _ _ ⟨rfl,⟨_,rfl⟩,fun i' k' hi' hk'=>by
    rcases Nat.lt_succ_iff_lt_or_eq.mp hi' with h' | h'
    · exact hi i' k' h' hk'
    · subst h';rw [hk] at hk';cases hk';exact h⟩
  dsimp only [Zay,x_ao,Zaz,Zap,Zae]
  refine Zcz hA ib1 rfl ?_
  dsimp only [c_in]
  refine Zg0 ib1 ?_
  cases e:pAt B.pacts k with
  | none=>exact nx4 _ _ (nextJ (by unfold Zce;rw [e]))
  | some w =>
  show wpAO _ true [_] _ _ _ _
  dsimp only [Zba,Zap]
  obtain ⟨a',ha',ip'⟩:=Zcu ib1.ps (Zco (j:=w.1) (q:=w.2) e).1
  rw [Nat.zero_add] at ip'
  refine Zj8 hA ip' (fun Q' h=>?_) ?_
  · dsimp only [Zar]
    refine Zcz hA ib1 rfl ?_
    dsimp only [Zae]
    exact Zfc ib1 (j:=w.1) (x:=w.2) e fun a'' h'' _=>by rw [ha'] at h'';cases h'';exact h
  dsimp only [Zah]
  (dsimp only [Zcf,Zai];rw [Zo3])
  have hfb:Zce B k=(w.2.state == .fln):=by unfold Zce;rw [e]
  cases hw:w.2.state == Sta.fln with
  | false=>exact nx4 _ _ (nextJ (hfb.trans hw))
  | true =>
    have hd:Zl6 B x=true:=by
      unfold Zl6;rw [hs,Bool.true_and,List.any_eq_true]
      exact ⟨k,List.mem_of_getElem? hk,hfb.trans hw⟩
    have:Zdy B=some (m,x):=Zq6 hm hx hd
    rw [this] at q
    exact q a ha
end
end Mine
end
section
open PySem PySem.W PyProof.Rows PySem.Spec PySem.SeqAt PySem.Calls
namespace Mine
theorem Zgl {n:Nat} {B:Bk} {l:List Str} (h:Zdy B=none):Zcw n B l=(B,l):=by
  cases n with
  | zero=>rfl
  | succ n=>unfold Zcw;rw [h]
theorem Zgk {n:Nat} {B:Bk} {l:List Str} {e:Nat×Pc} (h:Zdy B=some e):Zcw (n + 1) B l=Zcw n (Zfs B e.1 e.2) (l ++ [e.2.name]):=by
  conv=>lhs;unfold Zcw
  rw [h]
theorem fell_len {B:Bk} {j:Nat} {x:Pc}:(Zfs B j x).pacts.length=B.pacts.length:=List.length_set
theorem Zsu {B:Bk}:Zsv B≤B.pacts.length:=List.countP_le_length
section
variable {c:Cx} {P:Pg} (G:Gd c P) (U:HasP P) {n:Nat} {md:Bool} {Q:AV→Zaa→Prop} {E:String→Zaa→Prop} {H:Zaa} {o:Addr→Option Role} {b f s p a:Addr} {as:List Addr} {B:Bk} {j:Nat} {x:Pc}
inductive Zz1 (o:Addr→Option Role) (H:Zaa) (b f s p:Addr) (as:List Addr) (R:Bk×List Str) (l0:Nat) (v1:Option AV) (z:Addr) (m:Nat) (V':VV) (H':Zaa):Prop
  | mk (o':Addr→Option Role) (B':Bk) (l:List Str) (v:AV) (hV:V'=[some (.ref b),v1,some (.ref z),some v]) (ib:IsBook o' H' b f s p as B') (ok:BkOK B') (fr:Fr1 o H o' H') (hz:H' z=some (.list (txs l))) (ho:o' z=none) (hl:l.length + m≤l0) (hm:Zsv B'≤m) (hR:Zcw m B' l=R)
      (hv:match Zdy B' with | some e=>∃ a,as[e.1]? = some a∧v = .ref a | none=>v = .none):Zz1 o H b f s p as R l0 v1 z m V' H'
include G U
set_option tactic.hygienic true in
theorem Zix {nl:Addr} {l:List Str} (hU:P.fns.lookup "Book.dragged" = some BK.f_Book_dragged) (hU1:P.fns.lookup "Book.first_dragged" = some BK.f_Book_first_dragged) (hU2:P.fns.lookup "Book.fell" = some BK.f_Book_fell) (hU3:P.fns.lookup "Book.given_back" = some BK.f_Book_given_back)
    (ib:IsBook o H b f s p as B) (ok:BkOK B) (hn:H nl=some (.list (txs l))) (hno:o nl=none) (hl:l.length≤200)
    (q:∀ z o' H',H z=none→o' z=none→H' z=some (.list (txs (Zcw B.pacts.length B l).2))→IsBook o' H' b f s p as (Zcw B.pacts.length B l).1→Fr1 o H o' H'→Q (.ref z) H'):CallOK c (n + 3) true "Book.dragged" [.ref b,.ref nl] Q E H:=by
  refine G.call (F:=BK.f_Book_dragged) hU rfl ?_
  have hM:c.P.meths=BK.meths:=by rw [G.hP,U.a.meths]
  show wpSs _ _ _ _ _ [some (.ref b),some (.ref nl),none,none] _
  refine w_st fun K nx=>?_
  dsimp [v_0,Zah,Zae,Zau,Zbq,Zbb,x_ao,Zap,Za1,Zar,Zav,Za0,Zam,Zak,x_bm,Zbo,Zaw,Zbc,Zao,Zaf,Zac,Zba,Zaz,Zbv,Zbs,Zbj,Zbn,tv,wtg,Zb5,Zda,Zd6,Zb1,Zby,Zej,Zcr,c_lt,c_le,c_gt,c_ge,c_eq,c_ne,Zcf,Zdn,c_in,Zdm,Zai,Zeb,Zc0,Zax,Zb0,Zay,Zbt,Zaj,Zal,Za4]
  refine Zf1 hn (by exact Nat.le_trans (by assumption) (by decide)) fun z hz=>⟨by decide,nx _ _ ?_⟩
  have t71:=ib.fresh hz (.list (txs l))
  have ib1:=t71.1
  have f1:=t71.2
  have hz1:up H z (.list (txs l)) z=some (.list (txs l)):=Zad
  have hzo:(fun a=>if a=z then none else o a) z=(none:Option Role):=if_pos rfl
  generalize (fun a=>if a=z then none else o a)=o1 at ib1 f1 hzo
  generalize up H z (.list (txs l))=H1 at ib1 f1 hz1
  refine w_st fun K nx=>?_
  dsimp only [Zaj]
  refine Zbh hM (by decide) (by decide) ib1 rfl ?_
  dsimp only [Zaf]
  refine Zd9 G U hU1 ib1 ok fun o2 H2 ib2 f2=>?_
  have t72:=f2.old _ _ hz1 hzo
  have hz2:=t72.1
  have hzo2:=t72.2
  have key:∀ v,(match Zdy B with | some e=>∃ a,as[e.1]? = some a∧v = .ref a | none=>v = .none)→3 < 4∧K [some (.ref b),some (.ref nl),some (.ref z),some v] H2:=fun v hv=>by
    refine ⟨by decide,nx _ _ ?_⟩
    refine w_st fun K nx=>?_
    dsimp only [Zbu]
    refine ⟨rfl,Zz1 o H b f s p as (Zcw B.pacts.length B l) (l.length + B.pacts.length) (some (.ref nl)) z,⟨_,o2,B,l,v,rfl,ib2,ok,f1.trans f2,hz2,hzo2,Nat.le_refl _,Zsu,rfl,hv⟩,?_⟩
    rintro m V' H' ⟨o',B',l',v',rfl,ib',ok',fr',hz',ho',hl',hm',hR',hv'⟩
    dsimp only [Zap,Zae]
    show wpX _ (.lit .none) _ _ _ _
    dsimp only [Zah]
    cases e:Zdy B' with
    | none =>
      rw [e] at hv'
      subst hv'
      rw [Zgl e] at hR'
      refine nx _ _ ?_
      have q:=q z o' H' hz ho'
      rw [← hR'] at q
      exact q hz' ib' fr'
    | some w =>
      rw [e] at hv'
      obtain ⟨a,ha,rfl⟩:=hv'
      have t74:=Zq7 (m:=w.1) (x:=w.2) e
      have hj:=t74.1
      have hd:=t74.2
      have hopn:(w.2.state == Sta.opn)=true:=(Bool.and_eq_true _ _ ▸ (show (w.2.state == Sta.opn && w.2.needs.any (Zce B'))=true from hd)).1
      have hop:=Znx hj hopn
      obtain ⟨m,rfl⟩:∃ m',m=m' + 1:=⟨m - 1,by lia⟩
      rw [Zgk e] at hR'
      show wpSs _ _ _ _ _ [some (.ref b),some (.ref nl),some (.ref z),some (.ref a)] _
      refine w_st fun K2 nx2=>?_
      dsimp only [Zal,x_bm,Zae]
      refine ⟨?_,?_⟩
      · show match H' z with | some (.list _)=>_ | some (.dict _ _)=>_ | _=>False
        rw [hz'];exact .inl rfl
      dsimp only [Zac]
      refine Zbh hM (by decide) (by decide) ib' rfl ?_
      dsimp only [Zac,Zae]
      refine Zl4 G U hU2 hU3 ib' ok' hj ha fun o3 H3 ib3 f3=>?_
      have t75:=f3.old _ _ hz' ho'
      have hz3:=t75.1
      have hzo3:=t75.2
      dsimp only [Zaf]
      refine Zc8 hz3 (by rw [Zan];have:=ok.len;lia) (nx2 _ _ ?_)
      rw [Zd1]
      have ib4:=ib3.upN hzo3 (.list (txs (l' ++ [w.2.name])))
      have fr4:Fr1 o H o3 (up H3 z (.list (txs (l' ++ [w.2.name])))):=⟨fun y v hy hyo=>by
        have:=(fr'.trans f3).old y v hy hyo
        exact ⟨by rw [Zab (fun e=>by rw [e,hz] at hy;cases hy)];exact this.1,this.2⟩,fun y h=>(fr'.trans f3).gr y (Zde h)⟩
      refine w_st fun K3 nx3=>?_
      dsimp only [Zaj]
      refine Zbh hM (by decide) (by decide) ib4 rfl ?_
      dsimp only [Zaf]
      have ok4:=ok'.fell hj
      refine Zd9 G U hU1 ib4 ok4 fun o5 H5 ib5 f5=>?_
      have t76:=f5.old z _ Zad hzo3
      have hz5:=t76.1
      have hzo5:=t76.2
      have fin:∀ v,(match Zdy (Zfs B' w.1 w.2) with | some e=>∃ a,as[e.1]? = some a∧v = .ref a | none=>v = .none)→3 < 4∧K3 [some (.ref b),some (.ref nl),some (.ref z),some v] H5:=fun v hv=>⟨by decide,nx3 _ _ ⟨m,Nat.lt_succ_self m,o5,Zfs B' w.1 w.2,l' ++ [w.2.name],v,rfl,ib5,ok4,fr4.trans f5,hz5,hzo5,by rw [List.length_append];simp only [List.length_cons,List.length_nil];lia,by lia,hR',hv⟩⟩
      cases e5:Zdy (Zfs B' w.1 w.2) with
      | none=>exact fin _ (by rw [e5])
      | some w5=>exact fun a5 ha5=>fin _ (by rw [e5];exact ⟨a5,ha5,rfl⟩)
  cases e:Zdy B with
  | none=>exact key _ (by rw [e])
  | some w=>exact fun a ha=>key _ (by rw [e];exact ⟨a,ha,rfl⟩)
noncomputable def offQ (B:Bk) (w:AV):Except String (Bk×List Str):=match Zch B w with
  | none=>.error "NoPact"
  | some e=>if e.2.state = .opn then .ok (Zcw B.pacts.length (Zfs B e.1 e.2) [e.2.name]) else .error "NotOpen"
theorem Zwd {w:AV} (hU0:P.fns.lookup "Book.call_off" = some BK.f_Book_call_off) (hU:P.fns.lookup "Book.dragged" = some BK.f_Book_dragged) (hU1:P.fns.lookup "Book.first_dragged" = some BK.f_Book_first_dragged) (hU2:P.fns.lookup "Book.fell" = some BK.f_Book_fell) (hU3:P.fns.lookup "Book.given_back" = some BK.f_Book_given_back)
    (ib:IsBook o H b f s p as B) (ok:BkOK B) (hw:Kn H w)
    (q:match offQ B w with | .ok r=>∀ z o' H',H z=none→o' z=none→H' z=some (.list (txs r.2))→IsBook o' H' b f s p as r.1→Fr1 o H o' H'→Q (.ref z) H' | .error cl=>E cl H):CallOK c (n + 4) true "Book.call_off" [.ref b,w] Q E H:=by
  refine G.call (F:=BK.f_Book_call_off) hU0 rfl ?_
  have hM:c.P.meths=BK.meths:=by rw [G.hP,U.a.meths]
  show wpSs _ _ _ _ _ [some (.ref b),some w] _
  refine w_st fun K nx=>?_
  dsimp only [Zbt]
  refine Zbh hM (by decide) (by decide) ib rfl ?_
  dsimp only [Zac,Zaw]
  refine Zbh hM (by decide) (by decide) ib rfl ?_
  dsimp only [Zac]
  refine Zbh hM (by decide) (by decide) ib rfl ?_
  dsimp only [Zac,Zae]
  refine Zeg G U ib hw ?_
  unfold offQ at q
  cases e:Zch B w with
  | none=>rw [e] at q;exact q
  | some x =>
    rw [e] at q
    have hj:=Zcn (j:=x.1) (x:=x.2) e
    show if x.2.state = .opn then _ else _
    by_cases ho:x.2.state = .opn
    · refine Eq.mpr (if_pos ho) ?_
      dsimp only at q
      rw [if_pos ho] at q
      intro a ha ip
      refine Eq.mpr (Zaf) ?_
      refine Zl4 G U hU2 hU3 ib ok hj ha fun o1 H1 ib1 f1=>?_
      rw [Zaf]
      intro z hz
      dsimp only [Zaf]
      have t77:=ib1.fresh hz (.list (txs [x.2.name]))
      have ib2:=t77.1
      have f2:=t77.2
      refine Zix G U (l:=[x.2.name]) hU hU1 hU2 hU3 ib2 (ok.fell hj) Zad (if_pos rfl) (by simp) fun z' o' H' h1 h2 h3 h4 h5=>?_
      rw [fell_len] at h3 h4
      exact q z' o' H' ((f1.trans f2).gr z' h1) h2 h3 h4 ((f1.trans f2).trans h5)
    · refine Eq.mpr (if_neg ho) ?_
      dsimp only at q
      rw [if_neg ho] at q
      exact q
end
end Mine
end
section
open PySem PySem.W PyProof.Rows PySem.Spec PySem.SeqAt PySem.Calls
namespace Mine
structure Kv (v:AV):Prop where
  nr:∀ a,v≠.ref a
  len:∀ s,v = .str s→s.length < 2 ^ 62
theorem Kv.kn {v:AV} (h:Kv v) {H:Zaa}:Kn H v:=by
  refine ⟨?_,h.len⟩
  cases v with
  | ref a=>exact absurd rfl (h.nr a)
  | _=>exact ⟨_,rfl⟩
noncomputable def Zgb (B:Bk):List (AV×AV)→List (Str×Int)→Except String (List (Str×Int))
  | [],acc=>.ok acc
  | e :: r,acc=>if Zbz B e.1 then (if Zbi e.1∈acc.map (·.1) then .error "Twice" else if Zcj e.2 then Zgb B r (acc ++ [(Zbi e.1,Zfq e.2)]) else .error "NoAmount") else .error "NoPurse"
noncomputable def Zeu (B:Bk) (l:List (AV×AV)):Except String (List (Str×Int)):=if 1≤l.length∧l.length≤8 then Zgb B l [] else .error "NoRow"
noncomputable def Zfe (o:Addr→Option Role) (H:Zaa):List Addr→List (AV×AV)→Prop
  | [],[]=>True
  | t :: ts,e :: l=>(o t=none∧H t=some (.tuple [e.1,e.2])∧Kv e.1∧Kv e.2)∧Zfe o H ts l
  | _,_=>False
noncomputable def pairsU (H0:Zaa) (o:Addr→Option Role) (H:Zaa):List Addr→List (Str×Int)→Prop
  | [],[]=>True
  | t :: ts,e :: l=>(H0 t=none∧o t=none∧H t=some (.tuple [.str e.1,.int e.2]))∧pairsU H0 o H ts l
  | _,_=>False
section
variable {o o':Addr→Option Role} {H H' H0:Zaa}
theorem Zdb:∀ {ts:List Addr} {l:List (AV×AV)} {m:Nat} {t:Addr},Zfe o H ts l→ts[m]? = some t→∃ e,l[m]? = some e∧o t=none∧H t=some (.tuple [e.1,e.2])∧Kv e.1∧Kv e.2
  | _ :: _,e :: _,0,_,h,z=>by cases z;exact ⟨e,rfl,h.1⟩
  | _ :: ts,_ :: l,m + 1,_,h,z=>Zdb (m:=m) h.2 z
  | [],[],_,_,_,z=>by cases z
  | [],_ :: _,_,_,h,_=>h.elim
  | _ :: _,[],_,_,h,_=>h.elim
theorem Zik:∀ {ts:List Addr} {l:List (AV×AV)},Zfe o H ts l→ts.length=l.length
  | [],[],_=>rfl
  | _ :: _,_ :: _,h=>congrArg Nat.succ (Zik h.2)
  | [],_ :: _,h=>h.elim
  | _ :: _,[],h=>h.elim
theorem pairsU.keep (k:∀ t v,H0 t=none→o t=none→H t=some (.tuple v)→o' t=none∧H' t=some (.tuple v)):∀ {ts:List Addr} {l:List (Str×Int)},pairsU H0 o H ts l→pairsU H0 o' H' ts l
  | [],[],_=>trivial
  | t :: _,_ :: _,h=>⟨⟨h.1.1,k t _ h.1.1 h.1.2.1 h.1.2.2⟩,pairsU.keep k h.2⟩
  | [],_ :: _,h=>h.elim
  | _ :: _,[],h=>h.elim
theorem pairsU.snoc {t:Addr} {e:Str×Int} (h0:H0 t=none∧o t=none∧H t=some (.tuple [.str e.1,.int e.2])):∀ {ts:List Addr} {l:List (Str×Int)},pairsU H0 o H ts l→pairsU H0 o H (ts ++ [t]) (l ++ [e])
  | [],[],_=>⟨h0,trivial⟩
  | _ :: _,_ :: _,h=>⟨h.1,pairsU.snoc h0 h.2⟩
  | [],_ :: _,h=>h.elim
  | _ :: _,[],h=>h.elim
theorem Zfz:∀ {ts:List Addr} {l:List (Str×Int)},pairsU H0 o H ts l→ts.length=l.length
  | [],[],_=>rfl
  | _ :: _,_ :: _,h=>congrArg Nat.succ (Zfz h.2)
  | [],_ :: _,h=>h.elim
  | _ :: _,[],h=>h.elim
theorem Fr1.upF {z:Addr} {y:AObj} (fr:Fr1 o H o' H') (hz:H z=none):Fr1 o H o' (up H' z y) :=
  ⟨fun a v h k=>⟨by rw [Zab (fun e=>by rw [e,hz] at h;cases h)];exact (fr.old a v h k).1,(fr.old a v h k).2⟩,fun a h=>fr.gr a (Zde h)⟩
end
inductive Zzz (B:Bk) (o:Addr→Option Role) (H:Zaa) (b f s p:Addr) (as:List Addr) (l:List (AV×AV)) (R:Except String (List (Str×Int))) (v1:Option AV) (z sd:Addr) (m:Nat) (V':VV) (H':Zaa):Prop
  | mk (o':Addr→Option Role) (acc:List (Str×Int)) (ts:List Addr) (ep:Nat) (pr:Option AV) (hV:V'=[some (.ref b),v1,some (.ref z),some (.ref sd),pr]) (ib:IsBook o' H' b f s p as B) (fr:Fr1 o H o' H') (hz:H' z=some (.list (ts.map .ref))) (hzo:o' z=none) (hs:H' sd=some (.dict ep ((acc.map (·.1)).map fun k=>(k,.bool true)))) (hso:o' sd=none)
      (pu:pairsU H o' H' ts acc) (hl:acc.length=m) (hR:Zgb B (l.drop m) acc=R):Zzz B o H b f s p as l R v1 z sd m V' H'
section
variable {c:Cx} {P:Pg} (G:Gd c P) (U:HasP P) {n:Nat} {md:Bool} {Q:AV→Zaa→Prop} {E:String→Zaa→Prop} {H:Zaa} {o:Addr→Option Role} {b f s p a:Addr} {as:List Addr} {B:Bk} {j:Nat} {x:Pc}
theorem tup0 {H:Zaa} {Q:AV→Zaa→Prop} {t:Addr} {v w:AV} (h:H t=some (.tuple [v,w])) (q:Q v H):wsub (.ref t) (.int 0) Q H:=Zew h (by decide) rfl (by simp) q
theorem tup1 {H:Zaa} {Q:AV→Zaa→Prop} {t:Addr} {v w:AV} (h:H t=some (.tuple [v,w])) (q:Q w H):wsub (.ref t) (.int 1) Q H:=Zew h (by decide) rfl (by simp) q
include G U
set_option tactic.hygienic true in
theorem Zhj {pl:Addr} {ts:List Addr} {l:List (AV×AV)} (hU:P.fns.lookup "Book.pairs_of" = some BK.f_Book_pairs_of) (ib:IsBook o H b f s p as B) (hp:H pl=some (.list (ts.map .ref))) (hpo:o pl=none) (hg:Zfe o H ts l) (hll:l.length≤1000)
    (q:match Zeu B l with | .ok r=>(∀ z ts o' H',H z=none→o' z=none→H' z=some (.list (ts.map .ref))→pairsU H o' H' ts r→IsBook o' H' b f s p as B→Fr1 o H o' H'→Q (.ref z) H') | .error cl=>∀ o' H',IsBook o' H' b f s p as B→Fr1 o H o' H'→E cl H'):CallOK c (n + 3) true "Book.pairs_of" [.ref b,.ref pl] Q E H:=by
  refine G.call (F:=BK.f_Book_pairs_of) hU rfl ?_
  have hM:c.P.meths=BK.meths:=by rw [G.hP,U.a.meths]
  have hgl:c.P.consts.lookup "MOST" = some (.int 8):=by rw [G.hP,U.a.consts];rfl
  have hlen:=Zik hg
  show wpSs _ _ _ _ _ [some (.ref b),some (.ref pl),none,none,none] _
  unfold Zeu at q
  refine w_st fun K nx=>?_
  dsimp only [Zay,Zbb,Za1,Zah,Zak,Zac,Zae]
  show wpXs _ [] _ _ _ _
  (dsimp only [Zaf,Zgc];rw [hp])
  refine ⟨by rw [List.length_map];lia,?_⟩
  (rw [List.length_map,hlen];dsimp only [c_le,Zai])
  by_cases h1:1≤l.length
  case neg =>
    rw [if_neg (fun h=>h1 h.1)] at q
    rw [decide_eq_false (by lia)]
    exact ⟨rfl,q o H ib .refl⟩
  (rw [decide_eq_true (by exact Int.ofNat_lt.mpr (by assumption))];refine Eq.mpr (if_pos rfl) ?_;dsimp only [Za0])
  show match c.P.consts.lookup "MOST" with | some v=>_ | none=>False
  rw [hgl]
  show wcmp .LtE (.int l.length) (.int 8) _ _
  dsimp only [c_le]
  by_cases h2:l.length≤8
  case neg =>
    rw [if_neg (fun h=>h2 h.2)] at q
    rw [decide_eq_false (by lia)]
    exact ⟨rfl,q o H ib .refl⟩
  rw [decide_eq_true (by exact Int.ofNat_le.mpr (by assumption))]
  rw [if_pos ⟨h1,h2⟩] at q
  refine nx _ _ ?_
  refine w_st fun K nx=>?_
  dsimp only [Zaj,Zaw,Zaf]
  intro z hz
  refine ⟨show 2 < 5 by decide,nx _ _ ?_⟩
  obtain ⟨ib1,f1⟩:=ib.fresh hz (.list [])
  refine w_st fun K nx=>?_
  dsimp only [Zaj,Zao]
  intro sd hsd
  refine ⟨show 3 < 5 by decide,nx _ _ ?_⟩
  obtain ⟨ib2,f2⟩:=ib1.fresh hsd (.dict 0 [])
  have hzs:z≠sd:=Zgo hsd
  have hsd0:H sd=none:=Zde hsd
  refine w_st fun K nx=>?_
  dsimp only [Zbd,Zae]
  refine ⟨rfl,?_⟩
  show WFor _ _ (.ref pl) _ _
  have fr2:=f1.trans f2
  obtain ⟨hp2,hpo2⟩:=fr2.old _ _ hp hpo
  refine Zd0 (xs:=ts.map .ref) (by simp only [Zas,hp2]) (Zzz B o H b f s p as l (Zgb B l []) (some (.ref pl)) z sd) ⟨_,[],[],0,none,rfl,ib2,fr2,by rw [Zab hzs,Zad];rfl,by rw [if_neg hzs,if_pos rfl],Zad,if_pos rfl,trivial,rfl,rfl⟩ ?_
  rintro I hI m V' H' ⟨o',acc,us,ep,pr,rfl,ib',fr',hz',hzo',hs',hso',pu,hlm,hR⟩
  refine ⟨by show H' pl=_;rw [(fr'.old _ _ hp hpo).1,hp2],fun hm=>?_,fun y hy=>?_⟩
  · rw [List.length_map,hlen] at hm
    rw [hm,List.drop_length] at hR
    rw [← hR] at q
    exact nx _ _ (q z us o' H' hz hzo' hz' pu ib' fr')
  rw [List.getElem?_map,Option.map_eq_some_iff] at hy
  obtain ⟨t,ht,rfl⟩:=hy
  obtain ⟨e,he,hto,htt,kv1,kv2⟩:=Zdb hg ht
  obtain ⟨htt',_⟩:=fr'.old _ _ htt hto
  have hdrop:l.drop m=e :: l.drop (m + 1):=by
    obtain ⟨hlt,hee⟩:=List.getElem?_eq_some_iff.mp he
    rw [← hee];exact List.drop_eq_getElem_cons hlt
  rw [hdrop,Zgb] at hR
  refine ⟨show 4 < 5 by decide,?_⟩
  refine w_st fun K2 nx2=>?_
  show wpS _ _ _ _ _ [some (.ref b),some (.ref pl),some (.ref z),some (.ref sd),some (.ref t)] _
  dsimp only [Zal]
  refine Zbh hM (by decide) (by decide) ib' rfl ?_
  dsimp only [Zac,Zar]
  refine tup0 htt' ?_
  dsimp only [Zaf]
  refine Zcb G U.a ib' kv1.kn ?_
  cases hpb:Zbz B e.1 with
  | false =>
    rw [hpb] at hR
    rw [← hR] at q
    exact q o' H' ib' fr'
  | true =>
  obtain ⟨k,hk⟩:∃ k,e.1 = .str k:=⟨_,(Zbl hpb).1⟩
  rw [hpb,if_pos rfl] at hR
  rw [hk] at htt' hR
  have hkk:Zbi (.str k)=k:=rfl
  rw [hkk] at hR
  refine nx2 _ _ ?_
  refine w_st fun K2 nx2=>?_
  dsimp only [Zay,Zap,Zar]
  refine tup0 htt' ?_
  dsimp only [Zae]
  show wcmp .In (.str k) (.ref sd) _ _
  (dsimp only [c_in,Zfr];rw [hs'])
  show Zbp (.bool (Zbx ((acc.map (·.1)).map fun k=>(k,.bool true)) k).isSome) _ _
  (rw [Zgz];dsimp only [Zai])
  by_cases hin:k∈acc.map (·.1)
  · rw [if_pos hin] at hR
    rw [← hR] at q
    rw [decide_eq_true hin]
    exact ⟨rfl,q o' H' ib' fr'⟩
  rw [if_neg hin] at hR
  rw [decide_eq_false hin]
  refine nx2 _ _ ?_
  refine w_st fun K2 nx2=>?_
  dsimp only [Zaj,Zah,tsub,Zae]
  show wpX _ (.sub (.var 4) (.lit (.int 0))) _ _ _ _
  dsimp only [Zar,Zae]
  show wpX _ (.lit (.int 0)) _ _ _ _
  dsimp only [Zah]
  refine tup0 htt' ?_
  show match H' sd with | some (.dict _ _)=>_ | _=>False
  rw [hs']
  refine ⟨by rw [List.length_map,List.length_map,hlm];have:m < l.length:=(List.getElem?_eq_some_iff.mp he).1;exact Nat.le_trans (Nat.le_of_lt (Nat.lt_of_lt_of_le this hll)) (by decide),fun ep'=>nx2 _ _ ?_⟩
  rw [Zli hin]
  have ib3:=ib'.upN hso' (.dict ep' ((acc.map (·.1) ++ [k]).map fun k=>(k,.bool true)))
  have fr3:Fr1 o H o' (up H' sd (.dict ep' ((acc.map (·.1) ++ [k]).map fun k=>(k,.bool true)))):=fr'.upF hsd0
  have hz3:up H' sd (.dict ep' ((acc.map (·.1) ++ [k]).map fun k=>(k,.bool true))) z=some (.list (us.map .ref)):=by rw [Zab hzs];exact hz'
  have hs3:up H' sd (.dict ep' ((acc.map (·.1) ++ [k]).map fun k=>(k,.bool true))) sd=some (.dict ep' ((acc.map (·.1) ++ [k]).map fun k=>(k,.bool true))):=Zad
  have pu3:pairsU H o' (up H' sd (.dict ep' ((acc.map (·.1) ++ [k]).map fun k=>(k,.bool true)))) us acc:=pu.keep fun t v _ h1 h2=>⟨h1,by rw [Zab (fun e=>by rw [e,hs'] at h2;cases h2)];exact h2⟩
  generalize up H' sd (.dict ep' ((acc.map (·.1) ++ [k]).map fun k=>(k,.bool true)))=H3 at ib3 fr3 hz3 hs3 pu3
  obtain ⟨htt3,_⟩:=fr3.old _ _ htt hto
  rw [hk] at htt3
  refine w_st fun K2 nx2=>?_
  dsimp only [Zal,x_bm,Zae]
  refine ⟨?_,?_⟩
  · show match H3 z with | some (.list _)=>_ | some (.dict _ _)=>_ | _=>False
    rw [hz3];exact .inl rfl
  dsimp only [Zac,Zbc,Zar]
  refine tup0 htt3 ?_
  dsimp only [Zac,Zam,Zar]
  refine tup1 htt3 ?_
  refine Eq.mpr (Zaf) ?_
  refine Zh2 G U.a kv2.kn ?_
  cases hab:Zcj e.2 with
  | false =>
    rw [hab] at hR
    rw [← hR] at q
    exact q o' H3 ib3 fr3
  | true =>
  obtain ⟨i,hi⟩:∃ i,e.2 = .int i:=⟨_,Zga hab⟩
  rw [hab,if_pos rfl] at hR
  rw [hi] at hR ⊢
  rw [if_pos rfl,Zaf]
  intro t4 ht4
  obtain ⟨ib4,f4⟩:=ib3.fresh ht4 (.tuple [.str k,.int i])
  have fr4:=fr3.trans f4
  obtain ⟨hz4,hzo4⟩:=f4.old _ _ hz3 hzo'
  obtain ⟨hs4,hso4⟩:=f4.old _ _ hs3 hso'
  have pu4:=pu3.keep (H0:=H) (H':=up H3 t4 (.tuple [.str k,.int i])) (o':=fun a=>if a=t4 then none else o' a) fun t v _ h1 h2=>⟨(f4.old _ _ h2 h1).2,(f4.old _ _ h2 h1).1⟩
  have pu5:=pu4.snoc (t:=t4) (e:=(k,i)) ⟨fr3.gr t4 ht4,if_pos rfl,Zad⟩
  dsimp only [Zaf]
  refine Zc8 hz4 (by rw [List.length_map,Zfz pu,hlm];have:m < l.length:=(List.getElem?_eq_some_iff.mp he).1;lia) (nx2 _ _ ?_)
  refine hI _ _ _ ⟨_,acc ++ [(k,i)],us ++ [t4],ep',some (.ref t),rfl,ib4.upN hzo4 _,fr4.upF hz,by rw [Zad,List.map_append];rfl,hzo4,by rw [Zab hzs.symm,hs4,List.map_append (f:=fun x:Str×Int=>x.1)];rfl,hso4,pu5.keep fun t v _ h1 h2=>⟨h1,by rw [Zab (fun e=>by rw [e,hz4] at h2;cases h2)];exact h2⟩,by rw [List.length_append,hlm];rfl,hR⟩
end
end Mine
end
section
open PySem PySem.W PyProof.Rows PySem.Spec PySem.SeqAt PySem.Calls
namespace Mine
noncomputable def Zgf (B:Bk):List AV→List Str→Except String Unit
  | [],_=>.ok ()
  | v :: r,seen=>if Zds v then (if Zbi v∈seen then .error "Twice" else if Zce B (Zbi v) then .error "Fallen" else Zgf B r (seen ++ [Zbi v])) else .error "NoName"
noncomputable def Zge (B:Bk) (k:Str) (l:List AV):Except String Unit:=if l.length≤8 then Zgf B l [k] else .error "NoRow"
theorem Zc4 {α:Type} {p:Prop} [Decidable p] {x:Except String α} {e:String} {r:α} (h:(if p then x else .error e) = .ok r):p∧x = .ok r:=by
  by_cases hp:p
  · rw [if_pos hp] at h;exact ⟨hp,h⟩
  · rw [if_neg hp] at h;cases h
theorem Zht {α:Type} {p:Prop} [Decidable p] {x:Except String α} {e:String} {r:α} (h:(if p then .error e else x) = .ok r):¬ p∧x = .ok r:=by
  by_cases hp:p
  · rw [if_pos hp] at h;cases h
  · rw [if_neg hp] at h;exact ⟨hp,h⟩
theorem Zn6 {B:Bk} {l:List AV} {seen:List Str} (h:Zgf B l seen = .ok ()):l=txs (l.map Zbi):=by
  induction l generalizing seen with
  | nil=>rfl
  | cons v r ih =>
    obtain ⟨hn,h⟩:=Zc4 h
    have:=ih (Zht (Zht h).2).2
    rw [List.map_cons]
    show v :: r = .str (Zbi v) :: txs (r.map Zbi)
    rw [← Zfj hn,← this]
inductive Zz0 (B:Bk) (o:Addr→Option Role) (H:Zaa) (b f s p:Addr) (as:List Addr) (l:List AV) (R:Except String Unit) (v1 v2:Option AV) (sd:Addr) (m:Nat) (V':VV) (H':Zaa):Prop
  | mk (o':Addr→Option Role) (seen:List Str) (ep:Nat) (pr:Option AV) (hV:V'=[some (.ref b),v1,v2,some (.ref sd),pr]) (ib:IsBook o' H' b f s p as B) (fr:Fr1 o H o' H') (hs:H' sd=some (.dict ep (seen.map fun k=>(k,.bool true)))) (hso:o' sd=none) (hl:seen.length=m + 1) (hR:Zgf B (l.drop m) seen=R):Zz0 B o H b f s p as l R v1 v2 sd m V' H'
section
variable {c:Cx} {P:Pg} (G:Gd c P) (U:HasP P) {n:Nat} {md:Bool} {Q:AV→Zaa→Prop} {E:String→Zaa→Prop} {H:Zaa} {o:Addr→Option Role} {b f s p a:Addr} {as:List Addr} {B:Bk} {j:Nat} {x:Pc}
include G U
set_option tactic.hygienic true in
theorem Zlv {nl:Addr} {l:List AV} {kn:Str} (hU:P.fns.lookup "Book.needs_of" = some BK.f_Book_needs_of) (ib:IsBook o H b f s p as B) (hp:H nl=some (.list l)) (hpo:o nl=none) (hg:∀ v∈l,Kv v) (hll:l.length≤1000)
    (q:match Zge B kn l with | .ok _=>(∀ z o' H',H z=none→o' z=none→H' z=some (.list l)→IsBook o' H' b f s p as B→Fr1 o H o' H'→Q (.ref z) H') | .error cl=>∀ o' H',IsBook o' H' b f s p as B→Fr1 o H o' H'→E cl H'):CallOK c (n + 3) true "Book.needs_of" [.ref b,.str kn,.ref nl] Q E H:=by
  refine G.call (F:=BK.f_Book_needs_of) hU rfl ?_
  have hA:c.P.attrs=BK.attrs:=by rw [G.hP,U.a.attrs]
  have hgl:c.P.consts.lookup "MOST" = some (.int 8):=by rw [G.hP,U.a.consts];rfl
  show wpSs _ _ _ _ _ [some (.ref b),some (.str kn),some (.ref nl),none,none] _
  unfold Zge at q
  refine w_st fun K nx=>?_
  dsimp only [Zay,Zap,Zak,Zac,Zae]
  show wpXs _ [] _ _ _ _
  (dsimp only [Zaf,Zgc];rw [hp])
  refine ⟨by exact Nat.lt_of_le_of_lt (by assumption) (by decide),?_⟩
  dsimp only [Za0]
  show match c.P.consts.lookup "MOST" with | some v=>_ | none=>False
  rw [hgl]
  show wcmp .Gt (.int l.length) (.int 8) _ _
  dsimp only [c_gt,Zai]
  by_cases h2:l.length≤8
  case neg =>
    rw [if_neg h2] at q
    rw [decide_eq_true (by omega)]
    exact ⟨rfl,q o H ib .refl⟩
  rw [decide_eq_false (by omega)]
  rw [if_pos h2] at q
  refine nx _ _ ?_
  refine w_st fun K nx=>?_
  dsimp only [Zaj,Za7,Zae]
  show ∀ a ep,H a=none→_
  intro sd ep0 hsd
  refine ⟨show 3 < 5 by decide,nx _ _ ?_⟩
  obtain ⟨ib2,fr2⟩:=ib.fresh hsd (.dict ep0 [(kn,.bool true)])
  refine w_st fun K nx=>?_
  dsimp only [Zbd,Zae]
  refine ⟨rfl,?_⟩
  show WFor _ _ (.ref nl) _ _
  obtain ⟨hp2,hpo2⟩:=fr2.old _ _ hp hpo
  refine Zd0 (xs:=l) (by simp only [Zas,hp2]) (Zz0 B o H b f s p as l (Zgf B l [kn]) (some (.str kn)) (some (.ref nl)) sd) ⟨_,[kn],ep0,none,rfl,ib2,fr2,Zad,if_pos rfl,rfl,rfl⟩ ?_
  rintro I hI m V' H' ⟨o',seen,ep,pr,rfl,ib',fr',hs',hso',hlm,hR⟩
  obtain ⟨hp',hpo'⟩:=fr'.old _ _ hp hpo
  refine ⟨by show H' nl=_;rw [hp',hp2],fun hm=>?_,fun v hv=>?_⟩
  · rw [hm,List.drop_length] at hR
    rw [← hR] at q
    refine nx _ _ ?_
    refine w_st fun K nx=>?_
    dsimp only [Zbt,Zak,Zac,Zae]
    show wpXs _ [] _ _ _ _
    (dsimp only [Zaf,Zf0];rw [hp'])
    refine ⟨Nat.le_trans hll (by decide),fun z hz=>?_⟩
    obtain ⟨ib3,f3⟩:=ib'.fresh hz (.list l)
    exact q z _ _ (fr'.gr z hz) (if_pos rfl) Zad ib3 (fr'.trans f3)
  have hdrop:l.drop m=v :: l.drop (m + 1):=by
    obtain ⟨hlt,hee⟩:=List.getElem?_eq_some_iff.mp hv
    rw [← hee];exact List.drop_eq_getElem_cons hlt
  have hmlt:m < l.length:=(List.getElem?_eq_some_iff.mp hv).1
  rw [hdrop,Zgf] at hR
  refine ⟨show 4 < 5 by decide,?_⟩
  refine w_st fun K2 nx2=>?_
  show wpS _ _ _ _ _ [some (.ref b),some (.str kn),some (.ref nl),some (.ref sd),some v] _
  dsimp only [Zal,Zam,Zac,Zae]
  show CallOK _ _ _ _ [v] _ _ _
  refine Zlx G U.a (hg v (List.mem_of_getElem? hv)).kn ?_
  cases hn:Zds v with
  | false =>
    rw [hn] at hR
    rw [← hR] at q
    exact q o' H' ib' fr'
  | true =>
  obtain ⟨k,rfl⟩:∃ k,v = .str k:=⟨_,Zfj hn⟩
  rw [hn,if_pos rfl] at hR
  have hkk:Zbi (.str k)=k:=rfl
  rw [hkk] at hR
  refine nx2 _ _ ?_
  refine w_st fun K2 nx2=>?_
  refine Eq.mpr (Zay) (Eq.mpr (Zap) (Eq.mpr (Zae) ?_))
  show wpX _ (.var 3) _ _ _ _
  dsimp only [Zae]
  show wcmp .In (.str k) (.ref sd) _ _
  (dsimp only [c_in,Zfr];rw [hs'])
  show Zbp (.bool (Zbx (seen.map fun k=>(k,.bool true)) k).isSome) _ _
  (rw [Zgz];dsimp only [Zai])
  by_cases hin:k∈seen
  · rw [if_pos hin] at hR
    rw [← hR] at q
    rw [decide_eq_true hin]
    exact ⟨rfl,q o' H' ib' fr'⟩
  rw [if_neg hin] at hR
  rw [decide_eq_false hin]
  refine nx2 _ _ ?_
  refine w_st fun K2 nx2=>?_
  refine Eq.mpr (Zaj) (Eq.mpr (Zah) (Eq.mpr (tsub) (Eq.mpr (Zae) ?_)))
  show wpX _ (.var 4) _ _ _ _
  dsimp only [Zae]
  show match H' sd with | some (.dict _ _)=>_ | _=>False
  rw [hs']
  refine ⟨by rw [List.length_map,hlm];exact Nat.le_trans (Nat.le_trans (Nat.succ_le_of_lt hmlt) hll) (by decide),fun ep'=>nx2 _ _ ?_⟩
  rw [Zli hin]
  have ib3:=ib'.upN hso' (.dict ep' ((seen ++ [k]).map fun k=>(k,.bool true)))
  have fr3:Fr1 o H o' (up H' sd (.dict ep' ((seen ++ [k]).map fun k=>(k,.bool true)))):=fr'.upF hsd
  have hs3:up H' sd (.dict ep' ((seen ++ [k]).map fun k=>(k,.bool true))) sd=some (.dict ep' ((seen ++ [k]).map fun k=>(k,.bool true))):=Zad
  generalize up H' sd (.dict ep' ((seen ++ [k]).map fun k=>(k,.bool true)))=H3 at ib3 fr3 hs3
  refine w_st fun K2 nx2=>?_
  dsimp only [Zay,x_ao,Zaz,Zap,Zae]
  refine Zcz hA ib3 rfl ?_
  dsimp only [c_in]
  refine Zg0 ib3 ?_
  have nextI:Zce B k=false→I (m + 1) [some (.ref b),some (.str kn),some (.ref nl),some (.ref sd),some (.str k)] H3:=fun h=>hI _ _ _ ⟨o',seen ++ [k],ep',_,rfl,ib3,fr3,hs3,hso',by rw [List.length_append,hlm];rfl,by rw [if_neg (by rw [h];decide)] at hR;exact hR⟩
  cases e:pAt B.pacts k with
  | none=>exact nx2 _ _ (nextI (by unfold Zce;rw [e]))
  | some w =>
  show wpAO _ true [_] _ _ _ _
  dsimp only [Zba,Zap]
  obtain ⟨a',ha',ip'⟩:=Zcu ib3.ps (Zco (j:=w.1) (q:=w.2) e).1
  rw [Nat.zero_add] at ip'
  refine Zj8 hA ip' (fun Q' h=>?_) ?_
  · dsimp only [Zar]
    refine Zcz hA ib3 rfl ?_
    dsimp only [Zae]
    exact Zfc ib3 (j:=w.1) (x:=w.2) e fun a'' h'' _=>by rw [ha'] at h'';cases h'';exact h
  (dsimp only [Zah,Zcf,Zai];rw [Zo3])
  have hfb:Zce B k=(w.2.state == .fln):=by unfold Zce;rw [e]
  cases hw:w.2.state == Sta.fln with
  | false=>exact nx2 _ _ (nextI (hfb.trans hw))
  | true =>
    rw [if_pos (hfb.trans hw)] at hR
    rw [← hR] at q
    exact ⟨rfl,q o' H3 ib3 fr3⟩
omit U in
theorem Zsq {k:Str} {pa ga ne:Addr} {i:Int} (hU:P.fns.lookup "Pact.__init__" = some BK.f_Pact___init__) (hA:c.P.attrs=BK.attrs) (h:H a=some (.inst "Pact" []))
    (q:∀ w H',H w=none→H' a=some (.inst "Pact" [("name",.str k),("parts",.ref pa),("gains",.ref ga),("needs",.ref ne),("last",.int i),("state",.str (Str.ofString "open")),("inside",.ref w)])→H' w=some (.dict 0 [])→(∀ y,y≠a→y≠w→H' y=H y)→Q .none H'):CallOK c (n + 1) true "Pact.__init__" [.ref a,.str k,.ref pa,.ref ga,.ref ne,.int i] Q E H:=by
  refine G.call (F:=BK.f_Pact___init__) hU rfl ?_
  have hC:∀ n,BK.attrs.contains ("Pact",n)=true→c.P.attrs.contains ("Pact",n)=true:=fun n h=>by rw [hA];exact h
  show wpSs _ _ _ _ _ [some (.ref a),some (.str k),some (.ref pa),some (.ref ga),some (.ref ne),some (.int i)] _
  refine w_st fun K nx=>?_
  dsimp only [Zaj,Zae]
  refine st_a rfl (hC _ rfl) h (by exact (show 0≤100 by decide)) (nx _ _ ?_)
  refine w_st fun K nx=>?_
  dsimp only [Zaj,Zae]
  refine st_a rfl (hC _ rfl) Zad (by exact (show 1≤100 by decide)) (nx _ _ ?_)
  refine w_st fun K nx=>?_
  dsimp only [Zaj,Zae]
  refine st_a rfl (hC _ rfl) Zad (by exact (show 2≤100 by decide)) (nx _ _ ?_)
  refine w_st fun K nx=>?_
  dsimp only [Zaj,Zae]
  refine st_a rfl (hC _ rfl) Zad (by exact (show 3≤100 by decide)) (nx _ _ ?_)
  refine w_st fun K nx=>?_
  dsimp only [Zaj,Zae]
  refine st_a rfl (hC _ rfl) Zad (by exact (show 4≤100 by decide)) (nx _ _ ?_)
  refine w_st fun K nx=>?_
  dsimp only [Zaj,Zah]
  refine st_a rfl (hC _ rfl) Zad (by exact (show 5≤100 by decide)) (nx _ _ ?_)
  refine w_st fun K nx=>?_
  dsimp only [Zaj,Zao]
  intro w hw
  have haw:a≠w:=Zgo hw
  refine st_a rfl (hC _ rfl) (by rw [Zab haw,Zad]) (by exact (show 6≤100 by decide)) (nx _ _ ?_)
  refine q w _ (Zde (Zde (Zde (Zde (Zde (Zde hw)))))) Zad (by rw [Zab haw.symm,Zad]) fun y h1 h2=>?_
  rw [Zab h1,Zab h2,Zab h1,Zab h1,Zab h1,Zab h1,Zab h1,Zab h1]
end
end Mine
end
section
open PySem PySem.W PyProof.Rows PySem.Spec PySem.SeqAt PySem.Calls
namespace Mine
noncomputable def sumL (l:List (Str×Int)):Int:=(l.map (·.2)).sum
noncomputable def Znl (B:Bk) (v:AV) (pl gl:List (AV×AV)) (nl:List AV) (last:AV):Except String Bk :=
  if Zds v then
    if (pAt B.pacts (Zbi v)).isSome then .error "Taken" else
    match Zeu B pl with
    | .error e=>.error e
    | .ok ps=>match Zeu B gl with
      | .error e=>.error e
      | .ok gs=>if sumL ps≠sumL gs then .error "Uneven" else
        match Zge B (Zbi v) nl with
        | .error e=>.error e
        | .ok _=>if Zg4 last=true∧¬ Zfq last < B.day then .ok { B with pacts:=B.pacts ++ [⟨Zbi v,ps,gs,nl.map Zbi,Zfq last,.opn,[]⟩] } else .error "NoDay"
  else .error "NoName"
noncomputable def snd2 (H:Zaa):AV→Option AV
  | .ref t=>(match H t with | some (.tuple [_,w])=>some w | _=>none)
  | _=>none
theorem Zgr {H:Zaa} {t:Addr} {u w:AV} (h:H t=some (.tuple [u,w])):snd2 H (.ref t)=some w:=by
  show (match H t with | some (.tuple [_,w])=>some w | _=>none)=_
  rw [h]
section
variable {o o':Addr→Option Role} {H H' H0:Zaa}
theorem Fr1.ext (h:Ext H H'):Fr1 o H o H':=⟨fun a v e k=>⟨h a v e,k⟩,fun a e=>h.none e⟩
theorem IsBook.ext {b f s p:Addr} {as:List Addr} {B:Bk} (ib:IsBook o H b f s p as B) (h:Ext H H'):IsBook o H' b f s p as B:=ib.congr fun a r v _ hr hv _=>⟨hr,h a v hv⟩
theorem pairsU.ext {ts:List Addr} {l:List (Str×Int)} (h:pairsU H0 o H ts l) (hE:Ext H H'):pairsU H0 o H' ts l:=h.keep fun t v _ h1 h2=>⟨h1,hE _ _ h2⟩
theorem Zhk:∀ {ts:List Addr} {l:List (Str×Int)},pairsU H0 o H ts l→((ts.map AV.ref).filterMap (snd2 H))=(l.map (·.2)).map AV.int
  | [],[],_=>rfl
  | t :: ts,e :: l,h=>by
    rw [List.map_cons,List.filterMap_cons,List.map_cons,List.map_cons,← Zhk h.2]
    rw [Zgr h.1.2.2]
  | [],_ :: _,h=>h.elim
  | _ :: _,[],h=>h.elim
theorem Zii:∀ {ts:List Addr} {l:List (Str×Int)} {y:AV},pairsU H0 o H ts l→y∈ts.map AV.ref→∃ t k i,y = .ref t∧H t=some (.tuple [.str k,.int i])
  | t :: ts,e :: l,y,h,hy=>by
    rcases List.mem_cons.mp hy with rfl | hy
    · exact ⟨t,_,_,rfl,h.1.2.2⟩
    · exact Zii h.2 hy
  | [],[],_,_,hy=>by cases hy
  | [],_ :: _,_,h,_=>h.elim
  | _ :: _,[],_,h,_=>h.elim
theorem Zdi:∀ {ts:List Addr} {l:List (Str×Int)} {t:Addr},pairsU H0 o H ts l→t∈ts→H0 t=none∧o t=none∧∃ v,H t=some (.tuple v)
  | t :: ts,e :: l,y,h,hy=>by
    rcases List.mem_cons.mp hy with rfl | hy
    · exact ⟨h.1.1,h.1.2.1,_,h.1.2.2⟩
    · exact Zdi h.2 hy
  | [],[],_,_,hy=>by cases hy
  | [],_ :: _,_,h,_=>h.elim
  | _ :: _,[],_,h,_=>h.elim
theorem pairsU.own (hk:∀ t v,t∈ts→H t=some (.tuple v)→o' t=some .data∧H' t=some (.tuple v)) {l:List (Str×Int)} (h:pairsU H0 o H ts l):pairsAV o' H' ts l:=by
  induction ts generalizing l with
  | nil=>cases l with
    | nil=>trivial
    | cons=>exact h.elim
  | cons t ts ih=>cases l with
    | nil=>exact h.elim
    | cons e l =>
      have:=hk t _ List.mem_cons_self h.1.2.2
      exact ⟨this.1,this.2,ih (fun t v ht=>hk t v (List.mem_cons_of_mem _ ht)) h.2⟩
theorem Zhm:∀ {i:Nat} {as:List Addr} {ps:List Pc} {a:Addr} {x:Pc},pactsAt o H i as ps→IsPact o H (i + ps.length) a x→pactsAt o H i (as ++ [a]) (ps ++ [x])∧dP (ps ++ [x]) (as ++ [a])=dP ps as ++ [(x.name,.ref a)]
  | _,[],[],a,x,_,hx=>⟨⟨hx,trivial⟩,rfl⟩
  | i,a' :: as,q :: qs,a,x,h,hx=>by
    obtain ⟨h1,h2⟩:=Zhm (i:=i + 1) (a:=a) (x:=x) h.2 (by rw [show i + 1 + qs.length=i + (q :: qs).length by simp;lia];exact hx)
    exact ⟨⟨h.1,h1⟩,by show _ :: dP (qs ++ [x]) (as ++ [a])=_;rw [h2];rfl⟩
  | _,[],_ :: _,_,_,h,_=>h.elim
  | _,_ :: _,[],_,_,h,_=>h.elim
end
section
variable {c:Cx} {P:Pg} (G:Gd c P) (U:HasP P) {n:Nat} {md:Bool} {Q:AV→Zaa→Prop} {E:String→Zaa→Prop} {H:Zaa} {o:Addr→Option Role} {b f s p a:Addr} {as:List Addr} {B:Bk} {j:Nat} {x:Pc}
theorem Zjw {g:Gx} {V:VV} {i:Nat} {z:Addr} {ts:List Addr} {l:List (Str×Int)} {H0:Zaa} (hmd:g.md=true) (hl9:V.length=9) (hV:V[i]? = some (some (.ref z))) (hz:H z=some (.list (ts.map .ref))) (hu:pairsU H0 o H ts l) (hl:l.length≤1000)
    (q:∀ H',Ext H H'→Q (.int (sumL l)) H'):wpX g (.prim .sum [.comp (.sub (.var 9) (.lit (.int 1))) 1 false (.var i) none]) V Q E H:=by
  (dsimp only [Zak,Zac,Za8,Zae];rw [hV])
  refine ⟨hmd,?_⟩
  refine Zg5 (xs:=ts.map .ref) (by simp only [Zas,hz]) (by rw [List.length_map,Zfz hu];exact Nat.le_trans hl (by decide)) (snd2 H) (fun y hy H' hE nx hnx=>?_) fun a H' hE ha=>?_
  · obtain ⟨t,k,w,rfl,ht⟩:=Zii hu hy
    (refine Eq.mpr (if_neg (by decide)) ?_;dsimp only [Zbj];refine Eq.mpr (if_pos rfl) ?_;dsimp only [Zar,Zae];rw [List.getElem?_append_right (by lia),hl9])
    show wpX g (.lit (.int 1)) _ _ _ _
    dsimp only [Zah]
    refine tup1 (hE _ _ ht) ?_
    have:=hnx H' .refl
    rw [Zgr ht] at this
    exact this
  · (dsimp only [Zaf,Zhn];rw [hmd,Zad])
    refine ⟨rfl,l.map (·.2),Zhk hu,?_⟩
    exact q _ (hE.new ha)
theorem Znv {B:Bk} {l:List (AV×AV)} {acc r:List (Str×Int)} (h:Zgb B l acc = .ok r):r.length=acc.length + l.length:=by
  induction l generalizing acc with
  | nil=>cases h;rfl
  | cons e l ih =>
    have:=ih (Zc4 (Zht (Zc4 h).2).2).2
    rw [this,List.length_append,Nat.add_assoc]
    show acc.length + (1 + l.length)=acc.length + (l.length + 1)
    rw [Nat.add_comm 1]
set_option tactic.hygienic true in
theorem Zij {B:Bk} {l:List (AV×AV)} {r:List (Str×Int)} (h:Zeu B l = .ok r):r.length≤1000:=by
  unfold Zeu at h
  split at h
  · rename_i hh
    rw [Znv h];simp;lia
  · cases h
theorem Zoz {H0 H6:Zaa} {o0 o:Addr→Option Role} {H:Zaa} {b f s p a w za zb zn:Addr} {as ta tb:List Addr} {B:Bk} {k:Str} {ps gs:List (Str×Int)} {ns:List Str} {i:Int} (ib:IsBook o H b f s p as B) (fr:Fr1 o0 H0 o H) (nza:H0 za=none) (nzb:H0 zb=none) (nzn:H0 zn=none) (pa:pairsU H0 o H ta ps) (pb:pairsU H0 o H tb gs) (ha:H a=none) (hw:H w=none) (haw:a≠w)
    (hia:H6 a=some (.inst "Pact" [("name",.str k),("parts",.ref za),("gains",.ref zb),("needs",.ref zn),("last",.int i),("state",.str (Str.ofString "open")),("inside",.ref w)])) (hiw:H6 w=some (.dict 0 [])) (hold:∀ y v,H y=some v→H6 y=some v)
    (hza:H za=some (.list (ta.map .ref))) (hzao:o za=none) (hzb:H zb=some (.list (tb.map .ref))) (hzbo:o zb=none) (hzn:H zn=some (.list (txs ns))) (hzno:o zn=none) (ep:Nat) :
    ∃ o':Addr→Option Role,IsBook o' (up H6 p (.dict ep (dP B.pacts as ++ [(k,.ref a)]))) b f s p (as ++ [a]) { B with pacts:=B.pacts ++ [⟨k,ps,gs,ns,i,.opn,[]⟩] }∧Fr1 o0 H0 o' (up H6 p (.dict ep (dP B.pacts as ++ [(k,.ref a)]))):=by
  obtain ⟨e1,hf⟩:=ib.hf
  obtain ⟨e2,hs⟩:=ib.hs
  obtain ⟨e3,hp⟩:=ib.hp
  have na:∀ {y v},H y=some v→y≠a:=fun h e=>by rw [e,ha] at h;cases h
  have nw:∀ {y v},H y=some v→y≠w:=fun h e=>by rw [e,hw] at h;cases h
  have hd:∃ o':Addr→Option Role,o' a=some (.pact B.pacts.length)∧o' w=some (.inside B.pacts.length)∧(∀ y v,H y=some v→(y=za∨y=zb∨y=zn∨y∈ta∨y∈tb)→o' y=some .data)∧(∀ y v,H y=some v→¬ (y=za∨y=zb∨y=zn∨y∈ta∨y∈tb)→o' y=o y):=by
    refine ⟨fun y=>if y=a then some (.pact B.pacts.length) else if y=w then some (.inside B.pacts.length) else if y=za∨y=zb∨y=zn∨y∈ta∨y∈tb then some .data else o y,if_pos rfl,(if_neg haw.symm).trans (if_pos rfl),fun y v h1 h2=>?_,fun y v h1 h2=>?_⟩
    · exact (if_neg (na h1)).trans ((if_neg (nw h1)).trans (if_pos h2))
    · exact (if_neg (na h1)).trans ((if_neg (nw h1)).trans (if_neg h2))
  obtain ⟨o',oa,ow,od,oo⟩:=hd
  have nset:∀ {y v r},H y=some v→o y=some r→¬ (y=za∨y=zb∨y=zn∨y∈ta∨y∈tb):=fun {y v r} h1 h2 h=>by
    rcases h with h | h | h | h | h
    · rw [h,hzao] at h2;cases h2
    · rw [h,hzbo] at h2;cases h2
    · rw [h,hzno] at h2;cases h2
    · rw [(Zdi pa h).2.1] at h2;cases h2
    · rw [(Zdi pb h).2.1] at h2;cases h2
  have keep:∀ {y v r},H y=some v→o y=some r→y≠p→o' y=some r∧up H6 p (.dict ep (dP B.pacts as ++ [(k,.ref a)])) y=some v:=fun {y v r} h1 h2 h3=>⟨(oo y v h1 (nset h1 h2)).trans h2,by rw [Zab h3];exact hold y v h1⟩
  have np:∀ {y v},H y=some v→o y=none→y≠p:=fun h1 h2 e=>by rw [e,ib.op] at h2;cases h2
  have kd:∀ {y v},H y=some v→o y=none→(y=za∨y=zb∨y=zn∨y∈ta∨y∈tb)→o' y=some .data∧up H6 p (.dict ep (dP B.pacts as ++ [(k,.ref a)])) y=some v:=fun {y v} h1 h2 h3=>⟨od y v h1 h3,by rw [Zab (np h1 h2)];exact hold y v h1⟩
  have pap:p≠a:=na hp
  have pwp:p≠w:=nw hp
  have ip:IsPact o' (up H6 p (.dict ep (dP B.pacts as ++ [(k,.ref a)]))) (0 + B.pacts.length) a ⟨k,ps,gs,ns,i,.opn,[]⟩:=by
    rw [Nat.zero_add]
    refine ⟨oa,za,zb,zn,w,0,by rw [Zab pap.symm];exact hia,?_,?_,?_,?_,ow,by rw [Zab pwp.symm];exact hiw⟩
    · exact ⟨(kd hza hzao (.inl rfl)).1,ta,(kd hza hzao (.inl rfl)).2,pa.own fun t v ht h=>kd h (Zdi pa ht).2.1 (.inr (.inr (.inr (.inl ht))))⟩
    · exact ⟨(kd hzb hzbo (.inr (.inl rfl))).1,tb,(kd hzb hzbo (.inr (.inl rfl))).2,pb.own fun t v ht h=>kd h (Zdi pb ht).2.1 (.inr (.inr (.inr (.inr ht))))⟩
    · exact (kd hzn hzno (.inr (.inr (.inl rfl)))).1
    · exact (kd hzn hzno (.inr (.inr (.inl rfl)))).2
  have nb:b≠p:=Zb7 ib.ob ib.op (by intro h;cases h)
  have nf:f≠p:=Zb7 ib.of ib.op (by intro h;cases h)
  have ns':s≠p:=Zb7 ib.os ib.op (by intro h;cases h)
  have psk:pactsAt o' (up H6 p (.dict ep (dP B.pacts as ++ [(k,.ref a)]))) 0 as B.pacts:=ib.ps.congr (P:=Role.isP) (fun y r v hr h1 h2 _=>keep h2 h1 (fun e=>by rw [e,ib.op] at h1;cases h1;exact hr)) trivial fun _ _=>⟨trivial,trivial⟩
  obtain ⟨p1,p2⟩:=Zhm psk ip
  refine ⟨o',⟨(keep ib.hb ib.ob nb).1,(keep hf ib.of nf).1,(keep hs ib.os ns').1,(oo p _ hp (nset hp ib.op)).trans ib.op,(keep ib.hb ib.ob nb).2,⟨e1,(keep hf ib.of nf).2⟩,⟨e2,(keep hs ib.os ns').2⟩,⟨ep,?_⟩,p1⟩,⟨fun y v h1 h2=>?_,fun y h=>?_⟩⟩
  · show up H6 p _ p=some (.dict ep (dP (B.pacts ++ [_]) (as ++ [a])))
    rw [Zad,p2]
  · obtain ⟨h3,h4⟩:=fr.old y v h1 h2
    refine ⟨by rw [Zab (np h3 h4)];exact hold y v h3,(oo y v h3 fun h=>?_).trans h4⟩
    rcases h with h | h | h | h | h
    · rw [h,nza] at h1;cases h1
    · rw [h,nzb] at h1;cases h1
    · rw [h,nzn] at h1;cases h1
    · rw [(Zdi pa h).1] at h1;cases h1
    · rw [(Zdi pb h).1] at h1;cases h1
  · refine fr.gr y ?_
    cases hy:H y with
    | none=>rfl
    | some v=>have:=Zde h;rw [hold y v hy] at this;cases this
include G U
theorem Zsb {v last:AV} {pl gl nl:Addr} {ts us:List Addr} {pL gL:List (AV×AV)} {nL:List AV} (hU:P.fns.lookup "Book.tell" = some BK.f_Book_tell) (hU1:P.fns.lookup "Book.pairs_of" = some BK.f_Book_pairs_of) (hU2:P.fns.lookup "Book.needs_of" = some BK.f_Book_needs_of) (hU3:P.fns.lookup "Pact.__init__" = some BK.f_Pact___init__) (hcl:c.P.classes.contains "Pact" = true)
    (ib:IsBook o H b f s p as B) (ok:BkOK B) (kv:Kv v) (kl:Kv last) (hp:H pl=some (.list (ts.map .ref))) (hpo:o pl=none) (hpg:Zfe o H ts pL) (hg:H gl=some (.list (us.map .ref))) (hgo:o gl=none) (hgg:Zfe o H us gL) (hn:H nl=some (.list nL)) (hno:o nl=none) (hng:∀ v∈nL,Kv v)
    (l1:pL.length≤1000) (l2:gL.length≤1000) (l3:nL.length≤1000)
    (q:match Znl B v pL gL nL last with | .ok B'=>(∀ o' H' as',IsBook o' H' b f s p as' B'→Fr1 o H o' H'→Q .none H') | .error cl=>∀ o' H',IsBook o' H' b f s p as B→Fr1 o H o' H'→E cl H'):CallOK c (n + 4) true "Book.tell" [.ref b,v,.ref pl,.ref gl,.ref nl,last] Q E H:=by
  refine G.call (F:=BK.f_Book_tell) hU rfl ?_
  have hA:c.P.attrs=BK.attrs:=by rw [G.hP,U.a.attrs]
  have hM:c.P.meths=BK.meths:=by rw [G.hP,U.a.meths]
  show wpSs _ _ _ _ _ [some (.ref b),some v,some (.ref pl),some (.ref gl),some (.ref nl),some last,none,none,none] _
  unfold Znl at q
  refine w_st fun K nx=>?_
  dsimp only [Zal,Zam,Zac,Zae]
  show CallOK _ _ _ _ [v] _ _ _
  refine Zlx G U.a kv.kn ?_
  cases hnb:Zds v with
  | false=>rw [hnb] at q;exact q o H ib .refl
  | true =>
  obtain ⟨k,rfl⟩:∃ k,v = .str k:=⟨_,Zfj hnb⟩
  have hkk:Zbi (.str k)=k:=rfl
  rw [hnb,if_pos rfl,hkk] at q
  refine nx _ _ ?_
  refine w_st fun K nx=>?_
  dsimp only [Zay,Zap,Zae]
  refine Zcz hA ib rfl ?_
  dsimp only [c_in]
  refine Zg0 ib ?_
  cases e:pAt B.pacts k with
  | some w =>
    rw [e] at q
    exact ⟨rfl,q o H ib .refl⟩
  | none =>
  rw [e] at q
  rw [if_neg (by decide)] at q
  refine nx _ _ ?_
  refine w_st fun K nx=>?_
  dsimp only [Zaj]
  refine Zbh hM (by decide) (by decide) ib rfl ?_
  dsimp only [Zac,Zae]
  refine Zhj G U hU1 ib hp hpo hpg l1 ?_
  cases e1:Zeu B pL with
  | error cl=>rw [e1] at q;exact q
  | ok ps =>
  rw [e1] at q
  intro za ta o1 H1 hza hzo1 hz1 pu1 ib1 f1
  refine ⟨show 6 < 9 by decide,nx _ _ ?_⟩
  refine w_st fun K nx=>?_
  dsimp only [Zaj]
  refine Zbh hM (by decide) (by decide) ib1 rfl ?_
  dsimp only [Zac,Zae]
  obtain ⟨hg1,hgo1⟩:=f1.old _ _ hg hgo
  have hgg1:Zfe o1 H1 us gL:=by
    clear q nx
    revert hgg
    generalize us=us
    generalize gL=gL
    intro hgg
    induction us generalizing gL with
    | nil=>cases gL with
      | nil=>trivial
      | cons=>exact hgg.elim
    | cons t r ih=>cases gL with
      | nil=>exact hgg.elim
      | cons g gs=>exact ⟨⟨(f1.old _ _ hgg.1.2.1 hgg.1.1).2,(f1.old _ _ hgg.1.2.1 hgg.1.1).1,hgg.1.2.2⟩,ih gs hgg.2⟩
  refine Zhj G U hU1 ib1 hg1 hgo1 hgg1 l2 ?_
  cases e2:Zeu B gL with
  | error cl =>
    rw [e2] at q
    exact fun o' H' ib' f'=>q o' H' ib' (f1.trans f')
  | ok gs =>
  rw [e2] at q
  intro zb tb o2 H2 hzb hzo2 hz2 pu2 ib2 f2
  refine ⟨show 7 < 9 by decide,nx _ _ ?_⟩
  obtain ⟨hz1',hzo1'⟩:=f2.old _ _ hz1 hzo1
  have pu1':pairsU H o2 H2 ta ps:=pu1.keep fun t v _ h1 h2=>⟨(f2.old _ _ h2 h1).2,(f2.old _ _ h2 h1).1⟩
  have pu2':pairsU H o2 H2 tb gs:=by
    clear q nx
    revert pu2
    generalize tb=tb
    generalize gs=gs
    intro h
    induction tb generalizing gs with
    | nil=>cases gs with
      | nil=>trivial
      | cons=>exact h.elim
    | cons t r ih=>cases gs with
      | nil=>exact h.elim
      | cons g gs=>exact ⟨⟨f1.gr _ h.1.1,h.1.2⟩,ih gs h.2⟩
  have fr2:=f1.trans f2
  have lps:ps.length≤1000:=Zij e1
  have lgs:gs.length≤1000:=Zij e2
  refine w_st fun K nx=>?_
  show wpS _ _ _ _ _ [some (.ref b),some (.str k),some (.ref pl),some (.ref gl),some (.ref nl),some last,some (.ref za),some (.ref zb),none] _
  dsimp only [Zay,Zap]
  refine Zjw rfl rfl rfl hz1' pu1' lps fun H3 hE3=>?_
  refine Zjw rfl rfl rfl (hE3 _ _ hz2) (pu2'.ext hE3) lgs fun H4 hE4=>?_
  dsimp only [c_ne,Zai]
  have hE:=hE3.trans hE4
  have ib4:=ib2.ext hE
  have fr4:Fr1 o H o2 H4:=fr2.trans (.ext hE)
  have pa4':=pu1'.ext hE
  have pb4':=pu2'.ext hE
  have hza4:=hE _ _ hz1'
  have hzb4:=hE _ _ hz2
  dsimp only at q
  by_cases hsum:sumL ps=sumL gs
  case neg =>
    rw [if_pos hsum] at q
    refine Eq.mpr (if_pos (by simpa using hsum)) ?_
    exact ⟨rfl,q o2 H4 ib4 fr4⟩
  rw [if_neg (fun h=>h hsum)] at q
  refine Eq.mpr (if_neg (by simpa using hsum)) ?_
  refine nx _ _ ?_
  refine w_st fun K nx=>?_
  dsimp only [Zaj]
  refine Zbh hM (by decide) (by decide) ib4 rfl ?_
  refine Eq.mpr (Zac) (Eq.mpr (Zae) ?_)
  show wpXs _ [.var 4] _ _ _ _
  dsimp only [Zac,Zae]
  obtain ⟨hn4,hno4⟩:=fr4.old _ _ hn hno
  refine Zlv G U hU2 ib4 hn4 hno4 hng l3 ?_
  cases e3:Zge B k nL with
  | error cl =>
    rw [e3] at q
    exact fun o' H' ib' f'=>q o' H' ib' (fr4.trans f')
  | ok u =>
  rw [e3] at q
  dsimp only at q
  intro zn o5 H5 hzn hzno hzn5 ib5 f5
  have fr5:=fr4.trans f5
  obtain ⟨hza5,hzao5⟩:=f5.old _ _ hza4 hzo1'
  obtain ⟨hzb5,hzbo5⟩:=f5.old _ _ hzb4 hzo2
  have pa5:pairsU H o5 H5 ta ps:=pa4'.keep fun t v _ h1 h2=>⟨(f5.old _ _ h2 h1).2,(f5.old _ _ h2 h1).1⟩
  have pb5:pairsU H o5 H5 tb gs:=pb4'.keep fun t v _ h1 h2=>⟨(f5.old _ _ h2 h1).2,(f5.old _ _ h2 h1).1⟩
  refine ⟨show 8 < 9 by decide,nx _ _ ?_⟩
  have hnt:nL=txs (nL.map Zbi):=by
    unfold Zge at e3
    split at e3
    · exact Zn6 e3
    · cases e3
  refine w_st fun K nx=>?_
  show wpS _ _ _ _ _ [some (.ref b),some (.str k),some (.ref pl),some (.ref gl),some (.ref nl),some last,some (.ref za),some (.ref zb),some (.ref zn)] _
  dsimp only [Zay,x_ao,Zaz,Zbb,Zam,Zac,Zae]
  show CallOK _ _ _ _ [last] _ _ _
  refine Ze5 G U.a kl.kn ?_
  cases hwl:Zg4 last with
  | false =>
    rw [if_neg (fun h=>by rw [hwl] at h;cases h.1)] at q
    exact ⟨rfl,q o5 H5 ib5 fr5⟩
  | true =>
  obtain ⟨i,rfl⟩:∃ i,last = .int i:=by cases last <;> first | exact ⟨_,rfl⟩ | cases hwl
  (dsimp only [Zai];refine Eq.mpr (if_pos (show (!true)=false from rfl)) ?_;dsimp only [Zba,Zap,Zae])
  refine Zrq hA ib5 rfl ?_
  dsimp only [c_lt,Zai]
  by_cases hd:i < B.day
  · rw [if_neg (fun h=>h.2 hd)] at q
    rw [decide_eq_true hd]
    exact ⟨rfl,q o5 H5 ib5 fr5⟩
  rw [if_pos ⟨hwl,hd⟩] at q
  rw [decide_eq_false hd]
  refine nx _ _ ?_
  refine w_st fun K nx=>?_
  dsimp only [Zaj,Zcl]
  show ∀ a,H5 a=none→CallOK _ _ _ _ [.ref a,.str k,.ref za,.ref zb,.ref zn,.int i] _ _ _
  intro a ha
  refine Zsq G hU3 hA Zad fun w H6 hw hia hiw hrest=>⟨rfl,?_⟩
  have haw:a≠w:=Zgo hw
  have hw5:H5 w=none:=Zde hw
  have hold:∀ y v,H5 y=some v→H6 y=some v:=fun y v h=>by
    have h1:y≠a:=fun z=>by rw [z,ha] at h;cases h
    have h2:y≠w:=fun z=>by rw [z,hw5] at h;cases h
    rw [hrest y h1 h2,Zab h1];exact h
  obtain ⟨ep,hpd⟩:=ib5.hp
  have hl5:=Zf8 ib5.ps
  dsimp only [tsub]
  have ib6:IsBook o5 H6 b f s p as B:=ib5.ext hold
  refine Zcz hA ib6 rfl ?_
  dsimp only [Zae]
  show match H6 p with | some (.dict _ _)=>_ | _=>False
  rw [hold _ _ hpd]
  refine ⟨by have h1:=congrArg List.length hl5.1;rw [List.length_map,List.length_map,hl5.2] at h1;rw [h1];exact Nat.le_trans ok.len (by decide),fun ep'=>nx _ _ ?_⟩
  have hnone:Zbx (dP B.pacts as) k=none:=by rw [Zee ib5.ps,e];rfl
  have hput:putS (dP B.pacts as) k (.ref a)=dP B.pacts as ++ [(k,.ref a)]:=by unfold putS;rw [hnone];rfl
  rw [hput]
  obtain ⟨o',ib',fr'⟩:=Zoz ib5 fr5 hza (f1.gr _ hzb) (fr4.gr _ hzn) pa5 pb5 ha hw5 haw hia hiw hold hza5 hzao5 hzb5 hzbo5 (hnt ▸ hzn5) hzno ep'
  exact q o' _ (as ++ [a]) ib' fr'
end
end Mine
end
section
open PySem PySem.W PyProof.Rows PySem.Spec PySem.SeqAt PySem.Calls
namespace Mine
noncomputable def Zh3 (ks:List Str) (k:Str):List Str:=if k∈ks then ks else ks ++ [k]
theorem Zmv {es:List (Str×AV)} {k:Str}:(Zbx es k).isSome=decide (k∈es.map (·.1)):=by
  unfold Zbx
  rw [Option.isSome_map,Bool.eq_iff_iff,List.find?_isSome]
  simp
theorem Zsp {es:List (Str×AV)} {k:Str} {v:AV}:(putS es k v).map (·.1)=Zh3 (es.map (·.1)) k:=by
  unfold putS Zh3
  rw [Zmv]
  by_cases h:k∈es.map (·.1)
  · simp only [h,decide_true,if_true,List.map_map]
    apply List.map_congr_left
    intro e _
    simp only [Function.comp]
    split <;> simp_all
  · simp only [h,decide_false,if_false,Bool.false_eq_true,List.map_append,List.map_cons,List.map_nil]
theorem Zpi {es:List (Str×AV)} {k:Str} {v:AV}:(putS es k v).length≤es.length + 1:=by
  unfold putS;split <;> simp
set_option tactic.hygienic true in
theorem Zn9 {ks:List Str} {k x:Str}:x∈Zh3 ks k ↔ x∈ks∨x=k:=by
  unfold Zh3
  split
  · constructor
    · exact .inl
    · rintro (h | rfl) <;> assumption
  · simp
noncomputable def Zis (l:List Str):List Str:=l.foldl Zh3 []
theorem Zly {l:List Str} {x:Str}:Zis (l ++ [x])=Zh3 (Zis l) x:=by simp [Zis]
theorem Zqd {l:List Str}:∀ {ks:List Str} {x:Str},x∈l.foldl Zh3 ks ↔ x∈ks∨x∈l:=by
  induction l with
  | nil=>simp
  | cons t r ih =>
    intro ks x
    rw [List.foldl_cons,ih,Zn9,List.mem_cons]
    constructor
    · rintro ((h | h) | h)
      · exact .inl h
      · exact .inr (.inl h)
      · exact .inr (.inr h)
    · rintro (h | h | h)
      · exact .inl (.inl h)
      · exact .inl (.inr h)
      · exact .inr h
theorem Zn8 {l:List Str} {x:Str}:x∈Zis l ↔ x∈l:=by unfold Zis;rw [Zqd];simp
section
variable {c:Cx} {P:Pg} (G:Gd c P) {n:Nat} {md:Bool} {Q:AV→Zaa→Prop} {E:String→Zaa→Prop} {H:Zaa}
noncomputable def TabIs (H:Zaa) (z:Addr) (l:List Str):Prop:=∃ ep es,H z=some (.dict ep es)∧es.length≤l.length∧∀ k,(Zbx es k).isSome=decide (k∈l)
theorem TabIs.ext {H H':Zaa} {z:Addr} {l:List Str} (h:TabIs H z l) (e:Ext H H'):TabIs H' z l:=by
  obtain ⟨ep,es,h1,h2⟩:=h;exact ⟨ep,es,e _ _ h1,h2⟩
theorem Zou {no:Bool} {x:Str} {a:Addr} {l:List Str} (h:TabIs H a l) (q:Q (.bool (decide (x∈l) != no)) H):win no (.str x) (.ref a) Q H:=by
  obtain ⟨ep,es,h1,h2,h3⟩:=h
  refine Zr5 h1 ?_
  rw [h3];exact q
include G in
theorem Zi6 (hf:P.fns.lookup "table_of" = some BK.f_table_of) {a:Addr} {l:List Str} (ha:H a=some (.list (txs l))) (hl:l.length≤1000)
    (q:∀ z H',Ext H H'→H z=none→TabIs H' z l→Q (.ref z) H'):CallOK c (n + 1) true "table_of" [.ref a] Q E H:=by
  refine G.call (F:=BK.f_table_of) hf rfl ?_
  show wpSs _ _ _ _ _ [some (.ref a),none,none] _
  refine w_st fun K nx=>?_
  dsimp only [Zaj,Zao]
  intro z hz
  refine ⟨show 1 < 3 by decide,nx _ _ ?_⟩
  refine w_st fun K nx=>?_
  dsimp only [Zbd,Zae]
  refine ⟨rfl,?_⟩
  show WFor _ _ (.ref a) _ _
  refine Zd0 (xs:=txs l) (by simp only [Zas];rw [Zfw ha hz]) (fun k V' H'=>∃ ep es x,V'=[some (.ref a),some (.ref z),x]∧Ext H H'∧H' z=some (.dict ep es)∧es.length≤k∧es.map (·.1)=Zis (l.take k))
    ⟨0,[],none,rfl,Ext.refl.own hz,Zad,Nat.le_refl _,rfl⟩ ?_
  rintro I hI k V' H' ⟨ep,es,x,rfl,hE,hz',hlen,hk⟩
  refine ⟨by show H' a=_;rw [hE a _ ha,Zfw ha hz],fun hkl=>?_,fun y hy=>?_⟩
  · rw [hkl,Zan,List.take_length] at hk
    rw [hkl,Zan] at hlen
    exact nx _ _ (q z H' hE hz ⟨ep,es,hz',hlen,fun key=>by rw [Zmv,hk];simp [Zn8]⟩)
  · obtain ⟨s,rfl,hs⟩:=Zi4 hy
    have hkl:k < l.length:=(List.getElem?_eq_some_iff.mp hs).1
    refine ⟨show 2 < 3 by decide,?_⟩
    refine w_st fun K2 nx2=>?_
    show wpS _ _ _ _ _ [some (.ref a),some (.ref z),some (.str s)] _
    refine Eq.mpr (Zaj) (Eq.mpr (Zah) (Eq.mpr (tsub) (Eq.mpr (Zae) ?_)))
    show wpX _ (.var 2) _ _ _ _
    dsimp only [Zae]
    show match H' z with | some (.dict _ _)=>_ | _=>False
    rw [hz']
    refine ⟨Nat.le_trans (show es.length≤1000 by lia) (by decide),fun ep'=>nx2 _ _ (hI _ _ _ ⟨ep',putS es s (.bool true),_,rfl,hE.own hz,Zad,?_,?_⟩)⟩
    · have:=Zpi (es:=es) (k:=s) (v:=.bool true);lia
    · rw [Zsp,hk,Za5 hs,Zly]
noncomputable def NeedsAt (H:Zaa) (d:Addr) (nd:Str→List Str) (l:List Str):Prop:=∃ ep es,H d=some (.dict ep es)∧∀ x∈l,∃ r,Zbx es x=some (.ref r)∧H r=some (.list (txs (nd x)))∧(nd x).length≤1000
theorem NeedsAt.ext {H H':Zaa} {z:Addr} {l:List Str} {nd:Str→List Str} (h:NeedsAt H z nd l) (e:Ext H H'):NeedsAt H' z nd l:=by
  obtain ⟨ep,es,h1,h2⟩:=h
  refine ⟨ep,es,e _ _ h1,fun x hx=>?_⟩
  obtain ⟨r,h3,h4,h5⟩:=h2 x hx
  exact ⟨r,h3,e _ _ h4,h5⟩
theorem NeedsAt.sub {H:Zaa} {z:Addr} {l l':List Str} {nd:Str→List Str} (h:NeedsAt H z nd l) (e:∀ x∈l',x∈l):NeedsAt H z nd l':=by
  obtain ⟨ep,es,h1,h2⟩:=h
  exact ⟨ep,es,h1,fun x hx=>h2 x (e x hx)⟩
noncomputable def metB (nd:Str→List Str) (K D:List Str) (x:Str):Bool:=(nd x).all fun o=>decide (o∈K) || decide (o∈D)
include G in
theorem Zuz (hf:P.fns.lookup "are_met" = some BK.f_are_met) {a d kt dt:Addr} {l K D:List Str} {nd:Str→List Str} (ha:H a=some (.list (txs l))) (hd:NeedsAt H d nd l) (hk:TabIs H kt K) (ht:TabIs H dt D) (hl:l.length≤1000)
    (q:∀ z H',Ext H H'→H z=none→H' z=some (.list (txs (l.filter (metB nd K D))))→Q (.ref z) H'):CallOK c (n + 1) true "are_met" [.ref a,.ref d,.ref kt,.ref dt] Q E H:=by
  refine G.call (F:=BK.f_are_met) hf rfl ?_
  show wpSs _ _ _ _ _ [some (.ref a),some (.ref d),some (.ref kt),some (.ref dt),none,none] _
  refine w_st fun KK nx=>?_
  dsimp only [Zaj,Zaw,Zaf]
  intro z hz
  refine ⟨show 4 < 6 by decide,nx _ _ ?_⟩
  refine w_st fun KK nx=>?_
  dsimp only [Zbd,Zae]
  refine ⟨rfl,?_⟩
  show WFor _ _ (.ref a) _ _
  refine Zd0 (xs:=txs l) (by simp only [Zas];rw [Zfw ha hz]) (fun k V' H'=>∃ x,V'=[some (.ref a),some (.ref d),some (.ref kt),some (.ref dt),some (.ref z),x]∧Ext H H'∧H' z=some (.list (txs ((l.take k).filter (metB nd K D)))))
    ⟨none,rfl,Ext.refl.own hz,Zad⟩ ?_
  rintro I hI k V' H' ⟨x,rfl,hE,hz'⟩
  refine ⟨by show H' a=_;rw [hE a _ ha,Zfw ha hz],fun hkl=>?_,fun y hy=>?_⟩
  · rw [hkl,Zan,List.take_length] at hz'
    exact nx _ _ (q z H' hE hz hz')
  · obtain ⟨s,rfl,hs⟩:=Zi4 hy
    have hkl:k < l.length:=(List.getElem?_eq_some_iff.mp hs).1
    obtain ⟨ep,es,hd1,hd2⟩:=hd.ext hE
    obtain ⟨r,hr1,hr2,hr3⟩:=hd2 s (List.mem_of_getElem? hs)
    refine ⟨show 5 < 6 by decide,?_⟩
    refine w_st fun K2 nx2=>?_
    show wpS _ _ _ _ _ [some (.ref a),some (.ref d),some (.ref kt),some (.ref dt),some (.ref z),some (.str s)] _
    dsimp only [Zay,Zap,Za8]
    refine ⟨rfl,?_⟩
    refine Eq.mpr (Zar) (Eq.mpr (Zae) ?_)
    show wpX _ (.var 5) _ _ _ _
    dsimp only [Zae]
    show wsub (.ref d) (.str s) _ _
    (dsimp only [Zhb];rw [hd1])
    refine ⟨_,hr1,?_⟩
    refine Zg5 (xs:=txs (nd s)) (by simp only [Zas];rw [hr2]) (by rw [Zan];exact Nat.le_trans hr3 (by decide)) (fun v=>match v with | .str o=>if (decide (o∈K) || decide (o∈D)) then none else some (.str o) | _=>none) ?_ ?_
    · intro v hv H₁ hE1 nx hnx
      obtain ⟨o,ho,rfl⟩:∃ o,o∈nd s∧v = .str o:=by
        unfold txs at hv;rw [List.mem_map] at hv;obtain ⟨o,h1,h2⟩:=hv;exact ⟨o,h1,h2.symm⟩
      refine Eq.mpr (if_neg (by decide)) (Eq.mpr (Zbn) (Eq.mpr (x_ao) (Eq.mpr (Zaz) (Eq.mpr (Zap) (Eq.mpr (Zae) ?_)))))
      show wpX _ (.var 2) _ _ _ _
      dsimp only [Zae]
      show wcmp .NotIn (.str o) (.ref kt) _ _
      dsimp only [Zdm]
      refine Zou ((hk.ext hE).ext hE1) ?_
      have hn:=hnx H₁ .refl
      by_cases h1:o∈K
      · simp only [h1,decide_true,Bool.true_or,if_true] at hn ⊢;exact hn
      · simp only [h1,decide_false,Bool.false_or] at hn ⊢
        show wpAO _ true [_] _ _ _ _
        refine Eq.mpr (Zba) (Eq.mpr (Zap) (Eq.mpr (Zae) ?_))
        show wpX _ (.var 3) _ _ _ _
        dsimp only [Zae]
        show wcmp .NotIn (.str o) (.ref dt) _ _
        dsimp only [Zdm]
        refine Zou ((ht.ext hE).ext hE1) ?_
        by_cases h2:o∈D
        · simp only [h2,decide_true,if_true] at hn ⊢;exact hn
        · simp only [h2,decide_false,Bool.false_eq_true,if_false] at hn ⊢;exact hn
    · intro b H₁ hE1 hb
      have hfm:∀ l:List Str,(txs l).filterMap (fun v=>match v with | .str o=>if (decide (o∈K) || decide (o∈D)) then none else some (AV.str o) | _=>none)=txs (l.filter fun o=>!decide (o∈K) && !decide (o∈D)):=by
        intro l
        induction l with
        | nil=>rfl
        | cons t r ih =>
          show List.filterMap _ (AV.str t :: txs r)=_
          rw [List.filterMap_cons,ih,List.filter_cons]
          by_cases h1:t∈K <;> by_cases h2:t∈D <;> simp [txs,h1,h2]
      rw [hfm]
      show wpX _ (.list []) _ _ _ _
      dsimp only [Zaw,Zaf]
      intro b' hb'
      dsimp only [Z04]
      refine Zvb (l:=(nd s).filter fun o=>!decide (o∈K) && !decide (o∈D)) (l':=[]) (Zfw Zad hb') Zad ?_
      have hz₁:H₁ z=some (.list (txs ((l.take k).filter (metB nd K D)))):=hE1 _ _ hz'
      have hbz:z≠b:=Zc6 hz₁ hb
      have hb1:H₁ b'=none:=by
        have:b'≠b:=fun w=>by rw [w,Zad] at hb';cases hb'
        rwa [Zab this] at hb'
      have hbz':z≠b':=Zc6 hz₁ hb1
      have hz₂:(up (up H₁ b (.list (txs ((nd s).filter fun o=>!decide (o∈K) && !decide (o∈D))))) b' (.list [])) z=some (.list (txs ((l.take k).filter (metB nd K D)))):=by
        rw [Zab hbz',Zab hbz];exact hz₁
      have hE₂:Ext H (up (up H₁ b (.list (txs ((nd s).filter fun o=>!decide (o∈K) && !decide (o∈D))))) b' (.list [])):=((hE.trans hE1).new hb).new hb'
      have hm:decide ((nd s).filter (fun o=>!decide (o∈K) && !decide (o∈D))=[])=metB nd K D s:=by
        unfold metB
        rw [Bool.eq_iff_iff]
        simp only [decide_eq_true_eq,List.filter_eq_nil_iff,List.all_eq_true,Bool.or_eq_true,Bool.and_eq_true,Bool.not_eq_true',decide_eq_false_iff_not]
        constructor
        · intro h o ho
          by_cases h1:o∈K
          · exact .inl h1
          · exact .inr (Classical.byContradiction fun h2=>h o ho ⟨h1,h2⟩)
        · rintro h o ho ⟨h1,h2⟩
          rcases h o ho with z | z
          · exact h1 z
          · exact h2 z
      rw [hm]
      cases h:metB nd K D s with
      | true =>
        show wpSs _ _ _ _ _ [some (.ref a),some (.ref d),some (.ref kt),some (.ref dt),some (.ref z),some (.str s)] _
        refine w_st fun K3 nx3=>?_
        dsimp only [Zal,x_bm,Zae]
        refine ⟨?_,?_⟩
        · show match (up (up H₁ b _) b' _) z with | some (.list _)=>_ | some (.dict _ _)=>_ | _=>False
          rw [hz₂];exact .inl rfl
        dsimp only [Zac,Zae]
        show wpXs _ [] _ _ _ _
        dsimp only [Zaf]
        refine Zc8 hz₂ (by have:=List.length_filter_le (metB nd K D) (l.take k);rw [List.length_take] at this;rw [Zan];omega) (nx3 _ _ (nx2 _ _ ?_))
        refine hI _ _ _ ⟨_,rfl,hE₂.own hz,?_⟩
        rw [Zad,Za5 hs,List.filter_append,Zd1]
        simp [h]
      | false =>
        refine nx2 _ _ (hI _ _ _ ⟨_,rfl,hE₂,?_⟩)
        rw [hz₂,Za5 hs,List.filter_append]
        simp [h]
end
noncomputable def Zng (full:List Str) (nd:Str→List Str) (done:List Str) (S:Str→Prop):Prop:=∀ x,S x→x∈full∧∀ o∈nd x,S o∨o∈done
structure Grt (full:List Str) (nd:Str→List Str) (done g:List Str):Prop where
  sub:g.Sublist full
  met:∀ x∈g,∀ o∈nd x,o∈g∨o∈done
  top:∀ S,Zng full nd done S→∀ x,S x→x∈g
theorem Zl3 {α:Type} {p:α→Bool} {l:List α} (h:l.length≤(l.filter p).length):l.filter p=l:=by
  apply List.Sublist.eq_of_length List.filter_sublist
  have:=List.length_filter_le p l
  lia
section
variable {c:Cx} {P:Pg} (G:Gd c P) {n:Nat} {Q:AV→Zaa→Prop} {E:String→Zaa→Prop} {H:Zaa}
noncomputable def GInv (H:Zaa) (full done:List Str) (nd:Str→List Str) (fu d dn rd:Addr) (k:Nat) (V':VV) (H':Zaa):Prop :=
  ∃ na fo nl,V'=[some (.ref fu),some (.ref d),some (.ref dn),some (.ref rd),some (.ref na),some (.ref fo)]∧Ext H H'∧TabIs H' rd done∧H' na=some (.list (txs nl))∧k=nl.length∧nl.Sublist full ∧
    (∀ S,Zng full nd done S→∀ x,S x→x∈nl)∧H' fo=some (.list (txs (nl.filter (metB nd nl done))))∧H fo=none
theorem Zqc {full done nl:List Str} {nd:Str→List Str} (h:∀ S,Zng full nd done S→∀ x,S x→x∈nl):∀ S,Zng full nd done S→∀ x,S x→x∈nl.filter (metB nd nl done):=by
  intro S hS x hx
  rw [List.mem_filter]
  refine ⟨h S hS x hx,?_⟩
  unfold metB
  rw [List.all_eq_true]
  intro o ho
  rcases (hS x hx).2 o ho with z | z
  · simp [h S hS o z]
  · simp [z]
set_option tactic.hygienic true in
include G in
theorem Zl1 (h1:P.fns.lookup "greatest" = some BK.f_greatest) (h2:P.fns.lookup "are_met" = some BK.f_are_met) (h3:P.fns.lookup "table_of" = some BK.f_table_of) {fu d dn:Addr} {full done:List Str} {nd:Str→List Str}
    (hf:H fu=some (.list (txs full))) (hd:NeedsAt H d nd full) (hn:H dn=some (.list (txs done))) (lf:full.length≤1000) (ld:done.length≤1000)
    (q:∀ z H' g,Ext H H'→H z=none→H' z=some (.list (txs g))→Grt full nd done g→Q (.ref z) H'):CallOK c (n + 2) true "greatest" [.ref fu,.ref d,.ref dn] Q E H:=by
  refine G.call (F:=BK.f_greatest) h1 rfl ?_
  show wpSs _ _ _ _ _ [some (.ref fu),some (.ref d),some (.ref dn),none,none,none] _
  refine w_st fun KK nx=>?_
  dsimp only [Zaj,tv,List.length_cons,List.length_nil,Nat.reduceAdd,List.set_cons_succ,List.set_cons_zero,Zam,Zac,Zaf,Zae,List.getElem?_cons_succ,v_0]
  refine Zi6 G h3 hn ld fun rd H₁ hE1 hrd ht₁=>⟨by decide,nx _ _ ?_⟩
  refine w_st fun KK nx=>?_
  show wpS _ _ _ _ _ [some (.ref fu),some (.ref d),some (.ref dn),some (.ref rd),none,none] _
  dsimp only [Zaj,tv,List.length_cons,List.length_nil,Nat.reduceAdd,List.set_cons_succ,List.set_cons_zero,Zak,Zac,Zaf,Zae,v_0]
  refine Zf1 (hE1 _ _ hf) lf fun na hna=>⟨by decide,nx _ _ ?_⟩
  have hE₂:=hE1.new (o:=.list (txs full)) hna
  refine w_st fun KK nx=>?_
  show wpS _ _ _ _ _ [some (.ref fu),some (.ref d),some (.ref dn),some (.ref rd),some (.ref na),none] _
  dsimp only [Zaj,tv,List.length_cons,List.length_nil,Nat.reduceAdd,List.set_cons_succ,List.set_cons_zero,Zam,Zac,Zaf,Zae,List.getElem?_cons_succ,v_0]
  refine Zi6 G h3 (a:=na) (l:=full) Zad lf fun kt H₃ hE₃ hkt ht₃=>?_
  have hE:Ext H H₃:=hE₂.trans hE₃
  have hE13:Ext H₁ H₃:=(Ext.refl.new hna).trans hE₃
  have hna3:H₃ na=some (.list (txs full)):=hE₃ _ _ Zad
  refine Zuz G h2 hna3 (hd.ext hE) ht₃ (ht₁.ext hE13) lf fun fo H₄ hE₄ hfo hfo'=>⟨by decide,nx _ _ ?_⟩
  refine w_st fun KK nx=>?_
  dsimp only [Zbu]
  refine ⟨rfl,GInv H full done nd fu d dn rd,⟨full.length,na,fo,full,rfl,hE.trans hE₄,(ht₁.ext hE13).ext hE₄,hE₄ _ _ hna3,rfl,List.Sublist.refl _,fun S hS x hx=>(hS x hx).1,hfo',hE.none hfo⟩,?_⟩
  rintro k V' H' ⟨na',fo',nl,rfl,hX,hR,hN,rfl,hS,hT,hF,hFn⟩
  have hlen:nl.length≤full.length:=hS.length_le
  have hlen':=List.length_filter_le (metB nd nl done) nl
  have hS':(nl.filter (metB nd nl done)).Sublist full:=List.filter_sublist.trans hS
  have hT':=Zqc hT
  generalize hfl:nl.filter (metB nd nl done)=fl at hF hlen' hS' hT'
  dsimp only [Zap,Zak,Zac,Zaf,Zae,List.getElem?_cons_succ,v_0]
  refine Zps hF (by rw [Zan];lia) ?_
  refine Zps hN (by rw [Zan];exact Nat.le_trans (by assumption) (Nat.le_trans (by assumption) (by decide))) ?_
  (dsimp only [c_lt,Zai];rw [Zan,Zan])
  by_cases hlt:fl.length < nl.length
  · rw [decide_eq_true (by exact Int.ofNat_lt.mpr (by assumption))]
    show wpSs _ _ _ _ _ [some (.ref fu),some (.ref d),some (.ref dn),some (.ref rd),some (.ref na'),some (.ref fo')] _
    refine w_st fun K2 nx2=>?_
    dsimp only [Zaj,Zae]
    refine ⟨show 4 < 6 by decide,nx2 _ _ ?_⟩
    refine w_st fun K2 nx2=>?_
    show wpS _ _ _ _ _ [some (.ref fu),some (.ref d),some (.ref dn),some (.ref rd),some (.ref fo'),some (.ref fo')] _
    dsimp only [Zaj,tv,List.length_cons,List.length_nil,Nat.reduceAdd,List.set_cons_succ,List.set_cons_zero,Zam,Zac,Zaf,Zae,List.getElem?_cons_succ,v_0]
    refine Zi6 G h3 hF (by lia) fun kt' H₅ hE₅ _ ht5=>?_
    refine Zuz G h2 (hE₅ _ _ hF) (((hd.ext hX).ext hE₅).sub fun x hx=>hS'.subset hx) ht5 (hR.ext hE₅) (by lia) fun fo2 H₆ hE₆ hfo2 hfo2'=>⟨by decide,nx2 _ _ ?_⟩
    exact ⟨_,hlt,fo',fo2,_,rfl,(hX.trans hE₅).trans hE₆,(hR.ext hE₅).ext hE₆,hE₆ _ _ (hE₅ _ _ hF),rfl,hS',hT',hfo2',(hX.trans hE₅).none hfo2⟩
  · rw [decide_eq_false (by lia)]
    refine nx _ _ ?_
    have he:fl=nl:=by
      rw [← hfl] at hlt ⊢
      exact Zl3 (by exact Nat.not_lt.mp (by assumption))
    rw [he] at hF
    refine q fo' H' nl hX hFn hF ⟨hS,fun x hx o ho=>?_,hT⟩
    rw [← he,← hfl,List.mem_filter] at hx
    have:=hx.2
    unfold metB at this
    rw [List.all_eq_true] at this
    simpa using this o ho
end
end Mine
end
section
open PySem PySem.W PyProof.Rows PySem.Spec PySem.SeqAt PySem.Calls
namespace Mine
noncomputable def Zc3 (ps:List Pc):List Str:=(ps.filter Zet).map (·.name)
noncomputable def Zia (ps:List Pc):List Str:=(ps.filter fun x=>x.state == .dn).map (·.name)
noncomputable def ndB (B:Bk) (k:Str):List Str:=match pAt B.pacts k with
  | some e=>e.2.needs
  | none=>[]
theorem Zog {ps:List Pc} {x:Pc}:Zc3 (ps ++ [x])=Zc3 ps ++ (if Zet x then [x.name] else []):=by
  unfold Zc3;rw [List.filter_append,List.map_append]
  cases h:Zet x <;> simp [h]
theorem Zol {ps:List Pc} {x:Pc}:Zia (ps ++ [x])=Zia ps ++ (if x.state == .dn then [x.name] else []):=by
  unfold Zia;rw [List.filter_append,List.map_append]
  cases h:x.state == Sta.dn <;> simp [h]
theorem Zkp {ps:List Pc}:(Zc3 ps).length≤ps.length:=by unfold Zc3;rw [List.length_map];exact List.length_filter_le _ _
theorem Zku {ps:List Pc}:(Zia ps).length≤ps.length:=by unfold Zia;rw [List.length_map];exact List.length_filter_le _ _
theorem Zdj:∀ {ps:List Pc} {j:Nat} {x:Pc},(ps.map (·.name)).Nodup→ps[j]? = some x→pAt ps x.name=some (j,x)
  | q :: r,0,x,_,h=>by cases h;unfold pAt;rw [if_pos rfl]
  | q :: r,j + 1,x,hn,h=>by
    rw [List.map_cons,List.nodup_cons] at hn
    have hx:x∈r:=List.mem_of_getElem? h
    unfold pAt
    rw [if_neg (fun e=>hn.1 (by rw [e];exact List.mem_map_of_mem hx)),Zdj hn.2 h];rfl
  | [],_,_,_,h=>by cases h
noncomputable def NAt (o:Addr→Option Role) (H:Zaa) (r e:Addr) (nd:Str→List Str) (es:List (Str×AV)) (l:List Str):Prop:=∀ x∈l,∃ ρ,Zbx es x=some (.ref ρ)∧ρ≠r∧ρ≠e∧o ρ = none∧H ρ = some (.list (txs (nd x)))∧(nd x).length≤1000
theorem NAt.keep {o o':Addr→Option Role} {H H':Zaa} {r e:Addr} {nd:Str→List Str} {es:List (Str×AV)} {l:List Str} (h:NAt o H r e nd es l) (k:∀ ρ v,ρ≠r→ρ≠e→o ρ = none→H ρ = some (.list v)→o' ρ = none∧H' ρ = some (.list v)):NAt o' H' r e nd es l:=fun x hx=>by
  obtain ⟨ρ,h1,h2,h3,h4,h5,h6⟩:=h x hx
  have:=k ρ _ h2 h3 h4 h5
  exact ⟨ρ,h1,h2,h3,this.1,this.2,h6⟩
theorem Ztf {es:List (Str×AV)} {k x:Str} {v:AV}:Zbx (putS es k v) x=if x=k then some v else Zbx es x:=by
  unfold putS
  by_cases h:(Zbx es k).isSome=true
  · rw [if_pos h]
    unfold Zbx at h ⊢
    induction es with
    | nil=>cases h
    | cons e r ih =>
      rw [List.map_cons,List.find?_cons,List.find?_cons]
      rw [List.find?_cons] at h
      by_cases e1:e.1=k
      · rw [if_pos e1]
        by_cases e2:x=k
        · rw [show decide ((e.1,v).1=x)=true from decide_eq_true (e1.trans e2.symm),if_pos e2];rfl
        · have e3:e.1≠x:=fun z=>e2 (z.symm.trans e1)
          rw [show decide ((e.1,v).1=x)=false from decide_eq_false e3,if_neg e2]
          clear ih h
          show Option.map _ (List.find? _ _)=Option.map _ (List.find? _ _)
          congr 1
          induction r with
          | nil=>rfl
          | cons a r ih =>
            rw [List.map_cons,List.find?_cons,List.find?_cons]
            by_cases a1:a.1=k
            · rw [if_pos a1]
              have:a.1≠x:=fun z=>e2 (z.symm.trans a1)
              rw [show decide ((a.1,v).1=x)=false from decide_eq_false this];exact ih
            · rw [if_neg a1]
              cases decide (a.1=x)
              · exact ih
              · rfl
      · rw [if_neg e1]
        rw [show decide (e.1=k)=false from decide_eq_false e1] at h
        by_cases e2:e.1=x
        · rw [show decide (e.1=x)=true from decide_eq_true e2,if_neg (fun z=>e1 (e2.trans z))]
        · rw [show decide (e.1=x)=false from decide_eq_false e2];exact ih h
  · rw [if_neg h]
    have hn:Zbx es k=none:=by cases q:Zbx es k with | none=>rfl | some=>rw [q] at h;exact absurd rfl h
    clear h
    unfold Zbx at hn ⊢
    rw [List.find?_append,Option.map_eq_none_iff] at *
    by_cases e2:x=k
    · rw [if_pos e2,e2,hn];simp
    · rw [if_neg e2]
      cases List.find? (fun e=>decide (e.1=x)) es with
      | none=>simp [show ¬ k=x from fun z=>e2 z.symm]
      | some w=>rfl
inductive Zrx (B:Bk) (o:Addr→Option Role) (H:Zaa) (b f s p:Addr) (as:List Addr) (zv r d e:Addr) (m1 m2:Nat) (V':VV) (H':Zaa):Prop
  | mk (o':Addr→Option Role) (ep:Nat) (es:List (Str×AV)) (pr:Option AV) (hV:V'=[some (.ref b),some (.ref r),some (.ref d),some (.ref e),pr]) (ib:IsBook o' H' b f s p as B) (fr:Fr1 o H o' H') (hz:H' zv=some (.list (as.map .ref))) (hr:H' r=some (.list (txs (Zc3 (B.pacts.take m1))))) (hd:H' d=some (.dict ep es)) (he:H' e=some (.list (txs (Zia (B.pacts.take m2)))))
      (zo:o' zv=none) (ro:o' r=none) (dO:o' d=none) (eo:o' e=none) (hl:es.length≤m1) (hn:NAt o' H' r e (ndB B) es (Zc3 (B.pacts.take m1))):Zrx B o H b f s p as zv r d e m1 m2 V' H'
theorem IsBook.some {o:Addr→Option Role} {H:Zaa} {b f s p:Addr} {as:List Addr} {B:Bk} (ib:IsBook o H b f s p as B):∃ y,H b=Option.some y:=⟨_,ib.hb⟩
section
variable {c:Cx} {P:Pg} (G:Gd c P) (U:HasP P) {n:Nat} {md:Bool} {Q:AV→Zaa→Prop} {E:String→Zaa→Prop} {H:Zaa} {o:Addr→Option Role} {b f s p a:Addr} {as:List Addr} {B:Bk} {j:Nat} {x:Pc}
include G U
theorem Zla (hU:P.fns.lookup "Book.standing" = some BK.f_Book_standing) (hU1:P.fns.lookup "Pact.is_full" = some BK.f_Pact_is_full) (ib:IsBook o H b f s p as B) (ok:BkOK B) (nd:(B.pacts.map (·.name)).Nodup)
    (q:∀ z r d e o' H',H z=none→o' z=none→o' r=none→o' d=none→o' e=none→H' z=some (.tuple [.ref r,.ref d,.ref e])→H' r=some (.list (txs (Zc3 B.pacts)))→NeedsAt H' d (ndB B) (Zc3 B.pacts)→H' e=some (.list (txs (Zia B.pacts)))→IsBook o' H' b f s p as B→Fr1 o H o' H'→Q (.ref z) H'):CallOK c (n + 2) true "Book.standing" [.ref b] Q E H:=by
  refine G.call (F:=BK.f_Book_standing) hU rfl ?_
  have hA:c.P.attrs=BK.attrs:=by rw [G.hP,U.a.attrs]
  have hM:c.P.meths=BK.meths:=by rw [G.hP,U.a.meths]
  show wpSs _ _ _ _ _ [some (.ref b),none,none,none,none] _
  refine w_st fun K nx=>?_
  dsimp only [Zaj,Zaw,Zaf]
  intro r hr0
  refine ⟨show 1 < 5 by decide,nx _ _ ?_⟩
  obtain ⟨ib1,f1⟩:=ib.fresh hr0 (.list [])
  refine w_st fun K nx=>?_
  dsimp only [Zaj,Zao]
  intro d hd0
  refine ⟨show 2 < 5 by decide,nx _ _ ?_⟩
  obtain ⟨ib2,f2⟩:=ib1.fresh hd0 (.dict 0 [])
  refine w_st fun K nx=>?_
  dsimp only [Zaj,Zaw,Zaf]
  intro e he0
  refine ⟨show 3 < 5 by decide,nx _ _ ?_⟩
  obtain ⟨ib3,f3⟩:=ib2.fresh he0 (.list [])
  have hrd:r≠d:=Zgo hd0
  have hde:d≠e:=Zgo he0
  have hre:r≠e:=Zgo (by rw [Zab hde.symm] at he0;exact he0)
  have hd':H d=none:=Zde hd0
  have he':H e=none:=Zde (Zde he0)
  obtain ⟨r2,ro2⟩:=f2.old r _ Zad (if_pos rfl)
  obtain ⟨r3,ro3⟩:=f3.old r _ r2 ro2
  obtain ⟨d3,do3⟩:=f3.old d _ Zad (if_pos rfl)
  have fr3:=(f1.trans f2).trans f3
  obtain ⟨o3,H3,ib3,fr3,r3,d3,e3,ro3,do3,eo3⟩:∃ o3 H3,IsBook o3 H3 b f s p as B∧Fr1 o H o3 H3∧H3 r=some (.list [])∧H3 d=some (.dict 0 [])∧H3 e=some (.list [])∧o3 r=none∧o3 d=none∧o3 e=none∧H3=up (up (up H r (.list [])) d (.dict 0 [])) e (.list []):=⟨_,_,ib3,fr3,r3,d3,Zad,ro3,do3,if_pos rfl,rfl⟩
  obtain ⟨eo3,hH3⟩:=eo3
  rw [← hH3]
  refine w_st fun K nx=>?_
  dsimp only [Zbd]
  refine ⟨rfl,?_⟩
  refine Zg6 hA rfl ib3 ok.len rfl fun zv o4 H4 hzv0 hzvo hzv ib4 f4=>?_
  obtain ⟨r4,ro4⟩:=f4.old _ _ r3 ro3
  obtain ⟨d4,do4⟩:=f4.old _ _ d3 do3
  obtain ⟨e4,eo4⟩:=f4.old _ _ e3 eo3
  obtain ⟨_,hlen⟩:=Zf8 ib4.ps
  have fr4:=fr3.trans f4
  have hzr:zv≠r:=fun h=>by rw [h,r3] at hzv0;cases hzv0
  have hzd:zv≠d:=fun h=>by rw [h,d3] at hzv0;cases hzv0
  have hze:zv≠e:=fun h=>by rw [h,e3] at hzv0;cases hzv0
  clear hH3 f1 f2 f3 r2 ro2 ib1 ib2
  refine Zd0 (xs:=as.map .ref) (by simp only [Zas];rw [hzv]) (fun m V' H'=>Zrx B o H b f s p as zv r d e m m V' H') ⟨o4,0,[],none,rfl,ib4,fr4,hzv,r4,d4,e4,hzvo,ro4,do4,eo4,Nat.le_refl _,fun x hx=>by cases hx⟩ ?_
  rintro I hI m V' H' ⟨o',ep,es,pr,rfl,ib',fr',hz',hr',hdd',hee',zo',ro',do',eo',hl',hn'⟩
  refine ⟨by show H' zv=_;rw [hz',hzv],fun hm=>?_,fun y hy=>?_⟩
  · rw [List.length_map,hlen] at hm
    rw [hm,List.take_length] at hr' hee' hn'
    refine nx _ _ ?_
    refine w_st fun K nx=>?_
    dsimp only [Zbt,Zbc]
    show ∀ z,H' z=none→_
    intro z hz0
    obtain ⟨ib5,f5⟩:=ib'.fresh hz0 (.tuple [.ref r,.ref d,.ref e])
    obtain ⟨r5,ro5⟩:=f5.old _ _ hr' ro'
    obtain ⟨d5,do5⟩:=f5.old _ _ hdd' do'
    obtain ⟨e5,eo5⟩:=f5.old _ _ hee' eo'
    refine q z r d e _ _ (fr'.gr z hz0) (if_pos rfl) ro5 do5 eo5 Zad r5 ⟨ep,es,d5,fun x hx=>?_⟩ e5 ib5 (fr'.trans f5)
    obtain ⟨ρ,h1,_,_,h4,h5,h6⟩:=hn' x hx
    exact ⟨ρ,h1,(f5.old _ _ h5 h4).1,h6⟩
  rw [List.getElem?_map,Option.map_eq_some_iff] at hy
  obtain ⟨a,ha,rfl⟩:=hy
  obtain ⟨x,hx⟩:∃ x,B.pacts[m]? = some x:=⟨B.pacts[m]'(by rw [← hlen];exact (List.getElem?_eq_some_iff.mp ha).1),List.getElem?_eq_getElem _⟩
  have hin:=ok.inl m x hx
  have hml:m < B.pacts.length:=(List.getElem?_eq_some_iff.mp hx).1
  have hpl:=ok.len
  have htk:B.pacts.take (m + 1)=B.pacts.take m ++ [x]:=by rw [List.take_add_one,hx];rfl
  have hndx:ndB B x.name=x.needs:=by unfold ndB;rw [Zdj nd hx]
  refine ⟨show 4 < 5 by decide,?_⟩
  refine w_st fun K2 nx2=>?_
  show wpS _ _ _ _ _ [some (.ref b),some (.ref r),some (.ref d),some (.ref e),some (.ref a)] _
  have second:∀ H1,Zrx B o H b f s p as zv r d e (m + 1) m [some (.ref b),some (.ref r),some (.ref d),some (.ref e),some (.ref a)] H1→K2 [some (.ref b),some (.ref r),some (.ref d),some (.ref e),some (.ref a)] H1:=by
    rintro H1 ⟨o1,ep1,es1,pr1,hV1,ib1,fr1,hz1,hr1,hd1,he1,zo1,ro1,do1,eo1,hl1,hn1⟩
    refine nx2 _ _ ?_
    refine w_st fun K3 nx3=>?_
    dsimp only [Zay,Zap]
    refine Zff hA (ib1.pact hx ha) rfl ?_
    (dsimp only [Zah,Zcf,Zai];rw [Zxt])
    have hdn:=Zol (ps:=B.pacts.take m) (x:=x)
    cases hs:x.state == Sta.dn with
    | false =>
      rw [hs] at hdn
      refine nx3 _ _ (hI _ _ _ ⟨o1,ep1,es1,_,rfl,ib1,fr1,hz1,hr1,hd1,?_,zo1,ro1,do1,eo1,hl1,hn1⟩)
      rw [htk,hdn,he1];simp
    | true =>
      rw [hs] at hdn
      show wpSs _ _ _ _ _ [some (.ref b),some (.ref r),some (.ref d),some (.ref e),some (.ref a)] _
      refine w_st fun K4 nx4=>?_
      dsimp only [Zal,x_bm,Zae]
      refine ⟨?_,?_⟩
      · show match H1 e with | some (.list _)=>_ | some (.dict _ _)=>_ | _=>False
        rw [he1];exact .inl rfl
      dsimp only [Zac]
      refine Zji hA (ib1.pact hx ha) rfl ?_
      dsimp only [Zaf]
      refine Zc8 he1 (by rw [Zan];have:=Zku (ps:=B.pacts.take m);rw [List.length_take] at this;lia) (nx4 _ _ (nx3 _ _ (hI _ _ _ ⟨o1,ep1,es1,_,rfl,ib1.upN eo1 _,fr1.upF he',?_,?_,?_,?_,zo1,ro1,do1,eo1,hl1,hn1.keep fun ρ v h1 h2 h3 h4=>⟨h3,by rw [Zab h2];exact h4⟩⟩)))
      · rw [Zab hze];exact hz1
      · rw [Zab hre];exact hr1
      · rw [Zab hde];exact hd1
      · rw [Zad,htk,hdn,Zd1];rfl
  have hfu:=Zog (ps:=B.pacts.take m) (x:=x)
  dsimp only [Zay]
  refine Zll hA (ib'.pact hx ha) rfl hM (by decide) (by decide) ?_
  dsimp only [Zaf]
  refine Zoe G hU1 hA (ib'.pact hx ha) hin.1 hin.2.1 ?_
  dsimp only [Zai]
  cases hs:Zet x with
  | false =>
    rw [hs] at hfu
    refine second H' ⟨o',ep,es,_,rfl,ib',fr',hz',?_,hdd',hee',zo',ro',do',eo',Nat.le_succ_of_le hl',?_⟩
    · rw [htk,hfu,hr'];simp
    · rw [htk,hfu];simpa using hn'
  | true =>
  rw [hs] at hfu
  show wpSs _ _ _ _ _ [some (.ref b),some (.ref r),some (.ref d),some (.ref e),some (.ref a)] _
  refine w_st fun K3 nx3=>?_
  dsimp only [Zal,x_bm,Zae]
  refine ⟨?_,?_⟩
  · show match H' r with | some (.list _)=>_ | some (.dict _ _)=>_ | _=>False
    rw [hr'];exact .inl rfl
  dsimp only [Zac]
  refine Zji hA (ib'.pact hx ha) rfl ?_
  dsimp only [Zaf]
  refine Zc8 hr' (by rw [Zan];have:=Zkp (ps:=B.pacts.take m);rw [List.length_take] at this;lia) (nx3 _ _ ?_)
  have ib5:=ib'.upN ro' (.list (txs (Zc3 (B.pacts.take m)) ++ [.str x.name]))
  have fr5:Fr1 o H o' (up H' r (.list (txs (Zc3 (B.pacts.take m)) ++ [.str x.name]))):=fr'.upF hr0
  have n5:=hn'.keep (H':=up H' r (.list (txs (Zc3 (B.pacts.take m)) ++ [.str x.name]))) fun ρ v h1 h2 h3 h4=>⟨h3,by rw [Zab h1];exact h4⟩
  have z5:up H' r (.list (txs (Zc3 (B.pacts.take m)) ++ [.str x.name])) zv=some (.list (as.map .ref)):=by rw [Zab hzr];exact hz'
  have d5:up H' r (.list (txs (Zc3 (B.pacts.take m)) ++ [.str x.name])) d=some (.dict ep es):=by rw [Zab hrd.symm];exact hdd'
  have e5:up H' r (.list (txs (Zc3 (B.pacts.take m)) ++ [.str x.name])) e=some (.list (txs (Zia (B.pacts.take m)))):=by rw [Zab hre.symm];exact hee'
  have r5:up H' r (.list (txs (Zc3 (B.pacts.take m)) ++ [.str x.name])) r=some (.list (txs (Zc3 (B.pacts.take m)) ++ [.str x.name])):=Zad
  generalize up H' r (.list (txs (Zc3 (B.pacts.take m)) ++ [.str x.name]))=H5 at ib5 fr5 n5 z5 d5 e5 r5
  refine w_st fun K4 nx4=>?_
  dsimp only [Zaj,Zak,Zac]
  refine Zml hA (ib5.pact hx ha) rfl fun zn _ hzn=>?_
  dsimp only [Zaf]
  refine Zf1 hzn (Nat.le_trans hin.2.2.2 (by decide)) fun ρ hρ=>?_
  obtain ⟨ib6,f6⟩:=ib5.fresh hρ (.list (txs x.needs))
  have fr6:=fr5.trans f6
  obtain ⟨z6,zo6⟩:=f6.old _ _ z5 zo'
  obtain ⟨d6,do6⟩:=f6.old _ _ d5 do'
  obtain ⟨e6,eo6⟩:=f6.old _ _ e5 eo'
  obtain ⟨r6,ro6⟩:=f6.old _ _ r5 ro'
  dsimp only [tsub,Zae]
  show wpX _ (.attr (.var 4) "name") _ _ _ _
  refine Zji hA (ib6.pact hx ha) rfl ?_
  show match up H5 ρ (.list (txs x.needs)) d with | some (.dict _ _)=>_ | _=>False
  rw [d6]
  have hρr:ρ≠r:=fun h=>by rw [h,r5] at hρ;cases hρ
  have hρe:ρ≠e:=fun h=>by rw [h,e5] at hρ;cases hρ
  have hρd:ρ≠d:=fun h=>by rw [h,d5] at hρ;cases hρ
  refine ⟨Nat.le_trans (show es.length≤1000 by lia) (by decide),fun ep'=>nx4 _ _ (second _ ⟨_,ep',putS es x.name (.ref ρ),_,rfl,ib6.upN do6 _,fr6.upF hd',?_,?_,Zad,?_,zo6,ro6,do6,eo6,?_,?_⟩)⟩
  · rw [Zab hzd];exact z6
  · rw [Zab hrd,r6,htk,hfu,Zd1];rfl
  · rw [Zab hde.symm];exact e6
  · have:=Zpi (es:=es) (k:=x.name) (v:=.ref ρ);lia
  · intro y hy
    rw [Ztf]
    by_cases hyx:y=x.name
    · rw [if_pos hyx]
      refine ⟨ρ,rfl,hρr,hρe,if_pos rfl,?_,?_⟩
      · rw [Zab hρd,Zad,hyx,hndx]
      · rw [hyx,hndx];exact Nat.le_trans hin.2.2.2 (by decide)
    · rw [if_neg hyx]
      rw [htk,hfu] at hy
      have hy':y∈Zc3 (B.pacts.take m):=by
        rcases List.mem_append.mp hy with h | h
        · exact h
        · exact absurd (List.mem_singleton.mp h) hyx
      obtain ⟨ρ',h1,h2,h3,h4,h5,h6⟩:=n5 y hy'
      obtain ⟨h7,h8⟩:=f6.old _ _ h5 h4
      refine ⟨ρ',h1,h2,h3,h8,?_,h6⟩
      rw [Zab (fun z=>by rw [z,d6] at h7;cases h7)];exact h7
end
end Mine
end
section
open PySem PySem.W PyProof.Rows PySem.Spec PySem.SeqAt PySem.Calls
namespace Mine
section
variable {o:Addr→Option Role} {H:Zaa} {b f s p a:Addr} {as:List Addr} {B:Bk} {j:Nat} {x:Pc} {Q:AV→Zaa→Prop} {E:String→Zaa→Prop}
noncomputable def payAll:List (Str×Int)→Bk→Bk
  | [],B=>B
  | e :: l,B=>payAll l { B with aside:=pt B.aside e.1 ((lk B.aside e.1).getD 0 - e.2) }
theorem Zhi {e:Str×Int}:∀ {l:List (Str×Int)} {B:Bk},payAll (l ++ [e]) B = { payAll l B with aside:=pt (payAll l B).aside e.1 ((lk (payAll l B).aside e.1).getD 0 - e.2) }
  | [],B=>rfl
  | _ :: l,B=>Zhi (l:=l)
theorem SameB.payAll:∀ {l:List (Str×Int)} {B:Bk},(∀ e∈l,hs B.aside e.1=true)→SameB B (Mine.payAll l B)∧(Mine.payAll l B).pacts=B.pacts
  | [],B,_=>⟨.refl,rfl⟩
  | e :: l,B,h=>by
    have h0:=h e List.mem_cons_self
    have s1:SameB B { B with aside:=pt B.aside e.1 ((lk B.aside e.1).getD 0 - e.2) }:=⟨rfl,rfl,(Zed h0).1,fun _=>rfl,(Zed h0).2⟩
    obtain ⟨s2,p2⟩:=SameB.payAll (l:=l) (B:={ B with aside:=pt B.aside e.1 ((lk B.aside e.1).getD 0 - e.2) }) fun e' he=>by rw [s1.ah];exact h e' (List.mem_cons_of_mem _ he)
    exact ⟨s1.trans s2,p2⟩
theorem Zlj {g:Gx} {V:VV} {QN:VV→Zaa→Prop} {QR:AV→Zaa→Prop} {EE:String→VV→Zaa→Prop} {v1 v2 v3 v5:Option AV} (hA:g.c.P.attrs=BK.attrs) (hmd:g.md=true) (ib:IsBook o H b f s p as B) (hj:B.pacts[j]? = some x) (ha:as[j]? = some a) (hV:V=[some (.ref b),v1,v2,v3,some (.ref a),v5]) (hz:B.aside.length≤sizeLine) (able:∀ e∈x.parts,hs B.aside e.1=true)
    (q:∀ H' v5',IsBook o H' b f s p as (payAll x.parts B)→Fr1 o H o H'→KD o H H'→QN [some (.ref b),v1,v2,v3,some (.ref a),v5'] H') :
    wpS g (.for (.var 5) (.attr (.var 4) "parts") [.assign (.sub (.attr (.var 0) "aside") (.sub (.var 5) (.lit (.int 0)))) (.bin .Sub (.sub (.attr (.var 0) "aside") (.sub (.var 5) (.lit (.int 0)))) (.sub (.var 5) (.lit (.int 1))))]) QN QR EE V H:=by
  subst hV
  rw [Zbd]
  refine ⟨hmd,?_⟩
  refine Zfg hA (ib.pact hj ha) rfl fun z ⟨hzd,ts,hts,hl⟩=>?_
  refine Zd0 (xs:=ts.map .ref) (by simp only [Zas];rw [hts]) (fun m V' H'=>(∃ pr,V'=[some (.ref b),v1,v2,v3,some (.ref a),pr])∧IsBook o H' b f s p as (payAll (x.parts.take m) B)∧Fr1 o H o H'∧KD o H H') ⟨⟨_,rfl⟩,by rw [List.take_zero];exact ib,.refl,fun _ _=>rfl⟩ ?_
  rintro I hI m V' H' ⟨⟨pr,rfl⟩,ib',fr',kd'⟩
  obtain ⟨sm,hp⟩:=SameB.payAll (l:=x.parts.take m) (B:=B) fun e he=>able e (List.mem_of_mem_take he)
  refine ⟨kd' z hzd,fun hlen=>?_,fun y hy=>?_⟩
  · rw [hlen,List.length_map,Zdh hl,List.take_length] at ib'
    exact q H' pr ib' fr' kd'
  rw [List.getElem?_map,Option.map_eq_some_iff] at hy
  obtain ⟨t,ht,rfl⟩:=hy
  obtain ⟨e,he,htd,htt⟩:=Zdw hl ht
  have htt':H' t=some (.tuple [.str e.1,.int e.2]):=by rw [kd' t htd];exact htt
  have hsplit:x.parts.take (m + 1)=x.parts.take m ++ [e]:=by rw [List.take_add_one,he];rfl
  refine ⟨show 5 < 6 by decide,?_⟩
  refine w_st fun K nx=>?_
  show wpS _ _ _ _ _ [some (.ref b),v1,v2,v3,some (.ref a),some (.ref t)] _
  rw [Zaj,Zau,Zar]
  refine Zd7 hA ib' rfl ?_
  rw [Zar,Zae]
  show wpX _ (.lit (.int 0)) _ _ _ _
  rw [Zah]
  refine Zjh htt' ?_
  have hab:hs (payAll (x.parts.take m) B).aside e.1=true:=by rw [sm.ah];exact able e (List.mem_of_getElem? he)
  refine Zfd ib' (Zgg hab) ?_
  rw [Zar,Zae]
  show wpX _ (.lit (.int 1)) _ _ _ _
  rw [Zah]
  refine Zss htt' ?_
  rw [Zda,tsub]
  refine Zd7 hA ib' rfl ?_
  rw [Zar,Zae]
  show wpX _ (.lit (.int 0)) _ _ _ _
  rw [Zah]
  refine Zjh htt' ?_
  obtain ⟨ep,hd⟩:=ib'.hs
  show match H' s with | some (.dict _ _)=>_ | _=>False
  rw [hd]
  refine ⟨by rw [Ziy,sm.al];exact hz,fun ep'=>nx _ _ (hI _ _ _ ⟨⟨_,rfl⟩,?_,fr'.trans (Zi3 (by rw [ib'.os];simp)),kd'.trans (KD.up ib'.os (by intro h;cases h))⟩)⟩
  rw [Zig,hsplit,Zhi]
  exact ib'.setAside ep' _
noncomputable def gainAll:List (Str×Int)→Bk→Bk
  | [],B=>B
  | e :: l,B=>gainAll l { B with free:=pt B.free e.1 ((lk B.free e.1).getD 0 + e.2) }
theorem Zgj {e:Str×Int}:∀ {l:List (Str×Int)} {B:Bk},gainAll (l ++ [e]) B = { gainAll l B with free:=pt (gainAll l B).free e.1 ((lk (gainAll l B).free e.1).getD 0 + e.2) }
  | [],B=>rfl
  | _ :: l,B=>Zgj (l:=l)
theorem SameB.gainAll:∀ {l:List (Str×Int)} {B:Bk},(∀ e∈l,hs B.free e.1=true)→SameB B (Mine.gainAll l B)∧(Mine.gainAll l B).pacts=B.pacts
  | [],B,_=>⟨.refl,rfl⟩
  | e :: l,B,h=>by
    have h0:=h e List.mem_cons_self
    have s1:SameB B { B with free:=pt B.free e.1 ((lk B.free e.1).getD 0 + e.2) }:=⟨rfl,(Zed h0).1,rfl,(Zed h0).2,fun _=>rfl⟩
    obtain ⟨s2,p2⟩:=SameB.gainAll (l:=l) (B:={ B with free:=pt B.free e.1 ((lk B.free e.1).getD 0 + e.2) }) fun e' he=>by rw [s1.fh];exact h e' (List.mem_cons_of_mem _ he)
    exact ⟨s1.trans s2,p2⟩
theorem Zko {g:Gx} {V:VV} {QN:VV→Zaa→Prop} {QR:AV→Zaa→Prop} {EE:String→VV→Zaa→Prop} {v1 v2 v3 v5:Option AV} (hA:g.c.P.attrs=BK.attrs) (hmd:g.md=true) (ib:IsBook o H b f s p as B) (hj:B.pacts[j]? = some x) (ha:as[j]? = some a) (hV:V=[some (.ref b),v1,v2,v3,some (.ref a),v5]) (hz:B.free.length≤sizeLine) (able:∀ e∈x.gains,hs B.free e.1=true)
    (q:∀ H' v5',IsBook o H' b f s p as (gainAll x.gains B)→Fr1 o H o H'→KD o H H'→QN [some (.ref b),v1,v2,v3,some (.ref a),v5'] H') :
    wpS g (.for (.var 5) (.attr (.var 4) "gains") [.assign (.sub (.attr (.var 0) "free") (.sub (.var 5) (.lit (.int 0)))) (.bin .Add (.sub (.attr (.var 0) "free") (.sub (.var 5) (.lit (.int 0)))) (.sub (.var 5) (.lit (.int 1))))]) QN QR EE V H:=by
  subst hV
  rw [Zbd]
  refine ⟨hmd,?_⟩
  refine Zst hA (ib.pact hj ha) rfl fun z ⟨hzd,ts,hts,hl⟩=>?_
  refine Zd0 (xs:=ts.map .ref) (by simp only [Zas];rw [hts]) (fun m V' H'=>(∃ pr,V'=[some (.ref b),v1,v2,v3,some (.ref a),pr])∧IsBook o H' b f s p as (gainAll (x.gains.take m) B)∧Fr1 o H o H'∧KD o H H') ⟨⟨_,rfl⟩,by rw [List.take_zero];exact ib,.refl,fun _ _=>rfl⟩ ?_
  rintro I hI m V' H' ⟨⟨pr,rfl⟩,ib',fr',kd'⟩
  obtain ⟨sm,hp⟩:=SameB.gainAll (l:=x.gains.take m) (B:=B) fun e he=>able e (List.mem_of_mem_take he)
  refine ⟨kd' z hzd,fun hlen=>?_,fun y hy=>?_⟩
  · rw [hlen,List.length_map,Zdh hl,List.take_length] at ib'
    exact q H' pr ib' fr' kd'
  rw [List.getElem?_map,Option.map_eq_some_iff] at hy
  obtain ⟨t,ht,rfl⟩:=hy
  obtain ⟨e,he,htd,htt⟩:=Zdw hl ht
  have htt':H' t=some (.tuple [.str e.1,.int e.2]):=by rw [kd' t htd];exact htt
  have hsplit:x.gains.take (m + 1)=x.gains.take m ++ [e]:=by rw [List.take_add_one,he];rfl
  refine ⟨show 5 < 6 by decide,?_⟩
  refine w_st fun K nx=>?_
  show wpS _ _ _ _ _ [some (.ref b),v1,v2,v3,some (.ref a),some (.ref t)] _
  rw [Zaj,Zau,Zar]
  refine Zcs hA ib' rfl ?_
  rw [Zar,Zae]
  show wpX _ (.lit (.int 0)) _ _ _ _
  rw [Zah]
  refine Zjh htt' ?_
  have hab:hs (gainAll (x.gains.take m) B).free e.1=true:=by rw [sm.fh];exact able e (List.mem_of_getElem? he)
  refine Zc5 ib' (Zgg hab) ?_
  rw [Zar,Zae]
  show wpX _ (.lit (.int 1)) _ _ _ _
  rw [Zah]
  refine Zss htt' ?_
  rw [Zb5,tsub]
  refine Zcs hA ib' rfl ?_
  rw [Zar,Zae]
  show wpX _ (.lit (.int 0)) _ _ _ _
  rw [Zah]
  refine Zjh htt' ?_
  obtain ⟨ep,hd⟩:=ib'.hf
  show match H' f with | some (.dict _ _)=>_ | _=>False
  rw [hd]
  refine ⟨by rw [Ziy,sm.fl];exact hz,fun ep'=>nx _ _ (hI _ _ _ ⟨⟨_,rfl⟩,?_,fr'.trans (Zi3 (by rw [ib'.of];simp)),kd'.trans (KD.up ib'.of (by intro h;cases h))⟩)⟩
  rw [Zig,hsplit,Zgj]
  exact ib'.setFree ep' _
theorem Ztv {g:Gx} {V:VV} {QN:VV→Zaa→Prop} {QR:AV→Zaa→Prop} {EE:String→VV→Zaa→Prop} {i:Nat} {st:Sta} {rest:List S} (hA:g.c.P.attrs=BK.attrs) (ib:IsBook o H b f s p as B) (hj:B.pacts[j]? = some x) (ha:as[j]? = some a) (hV:V[i]? = some (some (.ref a)))
    (q:∀ o' H',IsBook o' H' b f s p as { B with pacts:=B.pacts.set j { x with inside:=[],state:=st } }→Fr1 o H o' H'→wpSs g rest QN QR EE V H'):wpSs g (.assign (.attr (.var i) "inside") (.dict [] []) :: .assign (.attr (.var i) "state") (.lit (.str st.str)) :: rest) QN QR EE V H:=by
  have hC:∀ n,BK.attrs.contains ("Pact",n)=true→g.c.P.attrs.contains ("Pact",n)=true:=fun n h=>by rw [hA];exact h
  obtain ⟨h0,pa,ga,ne,ins,ep,h,h1,h2,h3,h4,h5,h6⟩:=ib.pact hj ha
  refine w_st fun K nx=>?_
  dsimp only [Zaj,Zao]
  intro w hw
  have haw:a≠w:=fun e=>by rw [e,hw] at h;cases h
  refine st_a hV (hC _ rfl) (by rw [Zab haw];exact h) (by exact (show 7≤100 by decide)) (nx _ _ ?_)
  refine w_st fun K nx=>?_
  dsimp only [Zaj,Zah]
  refine st_a hV (hC _ rfl) Zad (by exact (show 7≤100 by decide)) (nx _ _ ?_)
  have kb0:KB (fun _=>True) o (fun y=>if y=w then some (.inside j) else o y) H (up H w (.dict 0 [])):=fun y r v _ hr hv _=>by
    have:y≠w:=fun e=>by rw [e,hw] at hv;cases hv
    exact ⟨(if_neg this).trans hr,by rw [Zab this];exact hv⟩
  have ib1:=ib.congr kb0
  generalize ho:(fun y=>if y=w then some (Role.inside j) else o y)=o' at kb0 ib1
  have hoa:o' a=some (.pact j):=by rw [← ho];exact (if_neg haw).trans h0
  have how:o' w=some (.inside j):=by rw [← ho];exact if_pos rfl
  have kb1:∀ {X:Zaa} {y:AObj},KB (fun r=>r≠.pact j∧r≠.inside j) o' o' X (up X a y):=Zh8 fun r hr=>by rw [hoa] at hr;cases hr;exact fun z=>z.1 rfl
  have kbd:∀ {X:Zaa} {y:AObj},KB (fun r=>r = .data) o' o' X (up X a y):=Zh8 fun r hr=>by rw [hoa] at hr;cases hr;exact fun z=>by cases z
  have kb0':KB (fun r=>r = .data) o o' H (up H w (.dict 0 [])):=fun y r v _ hr hv hb=>kb0 y r v trivial hr hv hb
  refine q o' _ (ib1.setPact hj ha (fun y r v hr ho hv hb=>kb1 y r v hr ho (kb1 y r v hr ho hv hb).2 hb) (⟨hoa,pa,ga,ne,w,0,Zad,((h1.congr kb0' rfl).congr kbd rfl).congr kbd rfl,((h2.congr kb0' rfl).congr kbd rfl).congr kbd rfl,(kb0' ne _ _ rfl h3 h4 rfl).1,?_,how,?_⟩:IsPact o' _ j a { x with inside:=[],state:=st }) rfl) ⟨fun y v hy ho'=>?_,fun y h=>Zde (Zde (Zde h))⟩
  · have:=kb0' ne _ _ rfl h3 h4 rfl
    have hna:ne≠a:=Zb7 this.1 hoa (by intro z;cases z)
    rw [Zab hna,Zab hna];exact this.2
  · rw [Zab haw.symm,Zab haw.symm,Zad];rfl
  · have hyw:y≠w:=fun e=>by rw [e,hw] at hy;cases hy
    have hya:y≠a:=fun e=>by rw [e,h0] at ho';cases ho'
    exact ⟨by rw [Zab hya,Zab hya,Zab hyw];exact hy,by rw [← ho];exact (if_neg hyw).trans ho'⟩
end
noncomputable def Zre (B:Bk) (j:Nat) (x:Pc):Bk:={ gainAll x.gains (payAll x.parts B) with pacts:=B.pacts.set j { x with inside:=[],state:=.dn } }
noncomputable def Zdf:List Str→Bk→Bk
  | [],B=>B
  | k :: r,B=>Zdf r (match pAt B.pacts k with | some e=>Zre B e.1 e.2 | none=>B)
theorem Zhs:∀ {ps:List Pc} {j:Nat} {x x':Pc},ps[j]? = some x→x'.name=x.name→(ps.set j x').map (·.name)=ps.map (·.name)
  | q :: r,0,x,x',h,e=>by cases h;simp [e]
  | q :: r,j + 1,x,x',h,e=>by rw [List.set_cons_succ,List.map_cons,List.map_cons,Zhs (ps:=r) (j:=j) h e]
  | [],_,_,_,h,_=>by cases h
theorem Zln:∀ {ps:List Pc} {k:Str},k∈ps.map (·.name)→∃ e,pAt ps k=some e
  | q :: r,k,h=>by
    unfold pAt
    by_cases e:q.name=k
    · exact ⟨_,if_pos e⟩
    · rw [if_neg e]
      rw [List.map_cons] at h
      obtain ⟨w,hw⟩:=Zln (ps:=r) ((List.mem_cons.mp h).resolve_left fun z=>e z.symm)
      rw [hw];exact ⟨_,rfl⟩
theorem BkOK.ends {B:Bk} {j:Nat} {x:Pc} (ok:BkOK B) (hj:B.pacts[j]? = some x):SameB B (gainAll x.gains (payAll x.parts B))∧(gainAll x.gains (payAll x.parts B)).pacts=B.pacts∧SameB B (payAll x.parts B)∧(payAll x.parts B).pacts=B.pacts:=by
  obtain ⟨s1,p1⟩:=SameB.payAll (l:=x.parts) (B:=B) fun e he=>ok.both _ (ok.purse j x hj e (.inl he))
  obtain ⟨s2,p2⟩:=SameB.gainAll (l:=x.gains) (B:=payAll x.parts B) fun e he=>by rw [s1.fh];exact ok.purse j x hj e (.inr he)
  exact ⟨s1.trans s2,p2.trans p1,s1,p1⟩
theorem BkOK.done {B:Bk} {j:Nat} {x:Pc} (ok:BkOK B) (hj:B.pacts[j]? = some x):BkOK (Zre B j x):=by
  obtain ⟨sm,_⟩:=ok.ends hj
  refine ok.keep ⟨sm.day,sm.fl,sm.al,sm.fh,sm.ah⟩ List.length_set (fun m y hy=>?_) fun m y hy=>?_
  · rcases Zjc hy with ⟨rfl,rfl,_⟩ | ⟨_,h⟩
    · exact ⟨x,hj,rfl,rfl,rfl,fun k hk=>by cases hk⟩
    · exact ⟨y,h,rfl,rfl,rfl,ok.part m y h⟩
  · rcases Zjc hy with ⟨rfl,rfl,_⟩ | ⟨_,h⟩
    · exact Nat.zero_le _
    · exact (ok.inl m y h).1
inductive SetI (B:Bk) (o:Addr→Option Role) (H:Zaa) (b f s p:Addr) (as:List Addr) (g:List Str) (v1:Option AV) (z:Addr) (m:Nat) (V':VV) (H':Zaa):Prop
  | mk (o':Addr→Option Role) (B':Bk) (p3 p4 p5:Option AV) (hV:V'=[some (.ref b),v1,some (.ref z),p3,p4,p5]) (ib:IsBook o' H' b f s p as B') (ok:BkOK B') (fr:Fr1 o H o' H') (hz:H' z=some (.list (txs g))) (zo:o' z=none) (hn:B'.pacts.map (·.name)=B.pacts.map (·.name)) (hR:Zdf (g.drop m) B'=Zdf g B):SetI B o H b f s p as g v1 z m V' H'
section
variable {c:Cx} {P:Pg} (G:Gd c P) (U:HasP P) {n:Nat} {md:Bool} {Q:AV→Zaa→Prop} {E:String→Zaa→Prop} {H:Zaa} {o:Addr→Option Role} {b f s p a:Addr} {as:List Addr} {B:Bk} {j:Nat} {x:Pc}
theorem IsBook.extZ {H':Zaa} {z:Addr} (ib:IsBook o H b f s p as B) (hE:Ext H H') (hz:H z=none):∃ o',IsBook o' H' b f s p as B∧Fr1 o H o' H'∧o' z=none :=
  ⟨fun a=>if a=z then none else o a,ib.congr fun a r v _ hr hv _=>⟨(if_neg (fun e=>by rw [e,hz] at hv;cases hv)).trans hr,hE a v hv⟩,⟨fun a v h k=>⟨hE a v h,(if_neg (fun e=>by rw [e,hz] at h;cases h)).trans k⟩,fun a h=>hE.none h⟩,if_pos rfl⟩
include G U
set_option tactic.hygienic true in
theorem Zo6 (hU:P.fns.lookup "Book.settle" = some BK.f_Book_settle) (hU0:P.fns.lookup "Book.standing" = some BK.f_Book_standing) (hU1:P.fns.lookup "Pact.is_full" = some BK.f_Pact_is_full) (g1:P.fns.lookup "greatest" = some BK.f_greatest) (g2:P.fns.lookup "are_met" = some BK.f_are_met) (g3:P.fns.lookup "table_of" = some BK.f_table_of)
    (ib:IsBook o H b f s p as B) (ok:BkOK B) (nd:(B.pacts.map (·.name)).Nodup)
    (q:∀ z g o' H',H z=none→o' z=none→H' z=some (.list (txs g))→Grt (Zc3 B.pacts) (ndB B) (Zia B.pacts) g→IsBook o' H' b f s p as (Zdf g B)→Fr1 o H o' H'→Q (.ref z) H'):CallOK c (n + 3) true "Book.settle" [.ref b] Q E H:=by
  refine G.call (F:=BK.f_Book_settle) hU rfl ?_
  have hA:c.P.attrs=BK.attrs:=by rw [G.hP,U.a.attrs]
  have hM:c.P.meths=BK.meths:=by rw [G.hP,U.a.meths]
  show wpSs _ _ _ _ _ [some (.ref b),none,none,none,none,none] _
  refine w_st fun K nx=>?_
  dsimp only [Zaj]
  refine Zbh hM (by decide) (by decide) ib rfl ?_
  dsimp only [Zaf]
  refine Zla G U hU0 hU1 ib ok nd fun zt r d e o1 H1 hzt zto ro dO eo ht hr hd he ib1 f1=>?_
  refine ⟨show 1 < 6 by decide,nx _ _ ?_⟩
  refine w_st fun K nx=>?_
  show wpS _ _ _ _ _ [some (.ref b),some (.ref zt),none,none,none,none] _
  dsimp only [Zaj,tv,List.length_cons,List.length_nil,Nat.reduceAdd,List.set_cons_succ,List.set_cons_zero,Zam,Zac,Zaf,Zar,Zah,Zae,List.getElem?_cons_succ,v_0]
  refine Zew (v:=.ref r) ht (by decide) rfl (by simp) ?_
  refine Zew (v:=.ref d) ht (by decide) rfl (by simp) ?_
  refine Zew (v:=.ref e) ht (by decide) rfl (by simp) ?_
  have lp:=ok.len
  refine Zl1 G g1 g2 g3 hr hd he (Nat.le_trans Zkp (by exact Nat.le_trans (by assumption) (by decide))) (Nat.le_trans Zku (by exact Nat.le_trans (by assumption) (by decide))) fun z H2 g hE hz0 hz2 hg=>?_
  obtain ⟨o2,ib2,f2,zo2⟩:=ib1.extZ hE hz0
  have fr2:=f1.trans f2
  have hgn:∀ k∈g,k∈B.pacts.map (·.name):=fun k hk=>by
    have:=hg.sub.subset hk
    unfold Zc3 at this
    obtain ⟨y,h1,h2⟩:=List.mem_map.mp this
    rw [← h2];exact List.mem_map_of_mem (List.mem_filter.mp h1).1
  refine ⟨by decide,nx _ _ ?_⟩
  refine w_st fun K nx=>?_
  dsimp only [Zbd,Zae]
  refine ⟨rfl,?_⟩
  show WFor _ _ (.ref z) _ _
  refine Zd0 (xs:=txs g) (by simp only [Zas];rw [hz2]) (SetI B o H b f s p as g (some (.ref zt)) z) ⟨o2,B,none,none,none,rfl,ib2,ok,fr2,hz2,zo2,rfl,rfl⟩ ?_
  rintro I hI m V' H' ⟨o',B',p3,p4,p5,rfl,ib',ok',fr',hz',zo',hn',hR'⟩
  refine ⟨by show H' z=_;rw [hz',hz2],fun hm=>?_,fun y hy=>?_⟩
  · rw [Zan] at hm
    rw [hm,List.drop_length] at hR'
    exact nx _ _ (q z g o' H' (f1.gr z hz0) zo' hz' hg (hR' ▸ ib') fr')
  obtain ⟨k,rfl,hk⟩:=Zi4 hy
  have hdrop:g.drop m=k :: g.drop (m + 1):=by
    obtain ⟨hlt,hee⟩:=List.getElem?_eq_some_iff.mp hk
    rw [← hee];exact List.drop_eq_getElem_cons hlt
  obtain ⟨w,hw⟩:=Zln (ps:=B'.pacts) (k:=k) (by rw [hn'];exact hgn k (List.mem_of_getElem? hk))
  obtain ⟨j,x⟩:=w
  have hj:=(Zco hw).1
  rw [hdrop,Zdf,hw] at hR'
  obtain ⟨a,ha,_⟩:=Zcu ib'.ps hj
  obtain ⟨s2,q2,s1,q1⟩:=ok'.ends hj
  refine ⟨show 3 < 6 by decide,?_⟩
  refine w_st fun K2 nx2=>?_
  show wpS _ _ _ _ _ [some (.ref b),some (.ref zt),some (.ref z),some (.str k),p4,p5] _
  dsimp only [Zaj,Zar]
  refine Zcz hA ib' rfl ?_
  dsimp only [Zae]
  refine Zfc ib' hw fun a' ha' _=>?_
  rw [ha] at ha';cases ha'
  refine ⟨show 4 < 6 by decide,nx2 _ _ ?_⟩
  refine w_st fun K2 nx2=>?_
  refine Zlj hA rfl ib' hj ha rfl ok'.sz.2 (fun e he=>ok'.both _ (ok'.purse j x hj e (.inl he))) fun H3 v5 ib3 f3 _=>nx2 _ _ ?_
  refine w_st fun K2 nx2=>?_
  refine Zko hA rfl ib3 (by rw [q1];exact hj) ha rfl (by rw [s1.fl];exact ok'.sz.1) (fun e he=>by rw [s1.fh];exact ok'.purse j x hj e (.inr he)) fun H4 v5' ib4 f4 _=>nx2 _ _ ?_
  refine Ztv (i:=4) (st:=.dn) hA ib4 (by rw [q2];exact hj) ha rfl fun o5 H5 ib5 f5=>?_
  rw [q2] at ib5
  have f35:=(f3.trans f4).trans f5
  obtain ⟨hz5,zo5⟩:=f35.old _ _ hz' zo'
  exact hI _ _ _ ⟨o5,Zre B' j x,_,_,_,rfl,ib5,ok'.done hj,fr'.trans f35,hz5,zo5,(Zhs (x':={ x with inside:=[],state:=.dn }) hj rfl).trans hn',hR'⟩
end
end Mine
end
section
open PySem PySem.W PyProof.Rows PySem.Spec PySem.SeqAt PySem.Calls
namespace Mine
abbrev pairsH (H:Zaa) (ts:List Addr) (l:List (AV×AV)):Prop:=Zfe (fun _=>none) H ts l
theorem pairsH.in {o:Addr→Option Role} {H H₂:Zaa} {b:Addr} {B:Bk} (hb:H b=some (.book B)) (hold:∀ a x,H a=some x→a≠b→H₂ a=some x∧o a=none):∀ {ts:List Addr} {l:List (AV×AV)},pairsH H ts l→Zfe o H₂ ts l
  | [],[],_=>trivial
  | t :: ts,e :: l,h=>by
    have hne:t≠b:=fun z=>by have:=h.1.2.1;rw [z,hb] at this;cases this
    exact ⟨⟨(hold t _ h.1.2.1 hne).2,(hold t _ h.1.2.1 hne).1,h.1.2.2⟩,pairsH.in hb hold h.2⟩
  | [],_ :: _,h=>h.elim
  | _ :: _,[],h=>h.elim
section
variable {c:Cx} {P:Pg} (G:Gd c P) (U:HasP P) {n:Nat} {md:Bool} {Q:AV→Zaa→Prop} {E:String→Zaa→Prop} {H:Zaa} {b:Addr} {B:Bk}
theorem Zlw {a:Addr} {xs:List AV} (hb:H b=some (.book B)) (h:H a=some (.list xs)):a≠b:=fun z=>by rw [z,hb] at h;cases h
include G U
theorem Zxe {v w:AV} (hU:P.fns.lookup "Book.set_aside" = some BK.f_Book_set_aside) (hU2:P.fns.lookup "Pact.part_of" = some BK.f_Pact_part_of) (hb:H b=some (.book B)) (kv:Kn H v) (kw:Kn H w) (ok:BkOK B) (q:Ends (Zfv B v w) (fun B'=>Q .none (up H b (.book B'))) (fun cl=>E cl H)):CallOK c (n + 4) true "Book.set_aside" [.ref b,v,w] Q E H:=by
  refine Zb3 hb fun H₂ o f s p as ib hold=>Zrs G U hU hU2 ib (kv.open hb hold) (kw.open hb hold) ok ?_
  revert q
  cases Zfv B v w with
  | ok B'=>exact fun q H' ib' fr=>⟨o,f,s,p,as,B',ib',fr,.inl ⟨(fun _ h=>by cases h),q⟩⟩
  | error cl=>exact fun q=>⟨o,f,s,p,as,B,ib,.refl,by rw [Ze9 hb];exact q⟩
theorem Zzu {v w:AV} (hU:P.fns.lookup "Book.draw_back" = some BK.f_Book_draw_back) (hU2:P.fns.lookup "Pact.part_of" = some BK.f_Pact_part_of) (hU3:P.fns.lookup "Book.given_back" = some BK.f_Book_given_back) (hb:H b=some (.book B)) (kv:Kn H v) (kw:Kn H w) (ok:BkOK B) (q:Ends (Zjo B v w) (fun B'=>Q .none (up H b (.book B'))) (fun cl=>E cl H)):CallOK c (n + 4) true "Book.draw_back" [.ref b,v,w] Q E H:=by
  refine Zb3 hb fun H₂ o f s p as ib hold=>Zt1 G U hU hU2 hU3 ib (kv.open hb hold) (kw.open hb hold) ok ?_
  revert q
  cases Zjo B v w with
  | ok B'=>exact fun q H' ib' fr=>⟨o,f,s,p,as,B',ib',fr,.inl ⟨(fun _ h=>by cases h),q⟩⟩
  | error cl=>exact fun q=>⟨o,f,s,p,as,B,ib,.refl,by rw [Ze9 hb];exact q⟩
theorem Zxm {v last:AV} {pl gl nl:Addr} {ts us:List Addr} {pL gL:List (AV×AV)} {nL:List AV} (hU:P.fns.lookup "Book.tell" = some BK.f_Book_tell) (hU1:P.fns.lookup "Book.pairs_of" = some BK.f_Book_pairs_of) (hU2:P.fns.lookup "Book.needs_of" = some BK.f_Book_needs_of) (hU3:P.fns.lookup "Pact.__init__" = some BK.f_Pact___init__) (hcl:c.P.classes.contains "Pact" = true)
    (hb:H b=some (.book B)) (ok:BkOK B) (kv:Kv v) (kl:Kv last) (hp:H pl=some (.list (ts.map .ref))) (hpg:pairsH H ts pL) (hg:H gl=some (.list (us.map .ref))) (hgg:pairsH H us gL) (hn:H nl=some (.list nL)) (hng:∀ v∈nL,Kv v) (l1:pL.length≤1000) (l2:gL.length≤1000) (l3:nL.length≤1000)
    (q:Ends (Znl B v pL gL nL last) (fun B'=>Q .none (up H b (.book B'))) (fun cl=>E cl H)):CallOK c (n + 4) true "Book.tell" [.ref b,v,.ref pl,.ref gl,.ref nl,last] Q E H:=by
  refine Zb3 hb fun H₂ o f s p as ib hold=>?_
  obtain ⟨hp',hpo⟩:=hold _ _ hp (Zlw hb hp)
  obtain ⟨hg',hgo⟩:=hold _ _ hg (Zlw hb hg)
  obtain ⟨hn',hno⟩:=hold _ _ hn (Zlw hb hn)
  refine Zsb G U hU hU1 hU2 hU3 hcl ib ok kv kl hp' hpo (hpg.in hb hold) hg' hgo (hgg.in hb hold) hn' hno hng l1 l2 l3 ?_
  revert q
  cases Znl B v pL gL nL last with
  | ok B'=>exact fun q o' H' as' ib' fr=>⟨o',f,s,p,as',B',ib',fr,.inl ⟨(fun _ h=>by cases h),q⟩⟩
  | error cl=>exact fun q o' H' ib' fr=>⟨o',f,s,p,as,B,ib',fr,by rw [Ze9 hb];exact q⟩
theorem Z0u {w:AV} (hU0:P.fns.lookup "Book.call_off" = some BK.f_Book_call_off) (hU:P.fns.lookup "Book.dragged" = some BK.f_Book_dragged) (hU1:P.fns.lookup "Book.first_dragged" = some BK.f_Book_first_dragged) (hU2:P.fns.lookup "Book.fell" = some BK.f_Book_fell) (hU3:P.fns.lookup "Book.given_back" = some BK.f_Book_given_back)
    (hb:H b=some (.book B)) (ok:BkOK B) (kw:Kn H w) (q:match offQ B w with | .ok r=>∀ z,H z=none→Q (.ref z) (up (up H b (.book r.1)) z (.list (txs r.2))) | .error cl=>E cl H):CallOK c (n + 4) true "Book.call_off" [.ref b,w] Q E H:=by
  refine Zb3 hb fun H₂ o f s p as ib hold=>Zwd G U hU0 hU hU1 hU2 hU3 ib ok (kw.open hb hold) ?_
  revert q
  cases offQ B w with
  | ok r=>exact fun q z o' H' hz ho hz' ib' fr=>⟨o',f,s,p,as,r.1,ib',fr,.inr ⟨z,_,rfl,Ze2 G U.a hb ib hold hz,hz',ho,q z (Ze2 G U.a hb ib hold hz)⟩⟩
  | error cl=>exact fun q=>⟨o,f,s,p,as,B,ib,.refl,by rw [Ze9 hb];exact q⟩
theorem Zsi (hU:P.fns.lookup "Book.settle" = some BK.f_Book_settle) (hU0:P.fns.lookup "Book.standing" = some BK.f_Book_standing) (hU1:P.fns.lookup "Pact.is_full" = some BK.f_Pact_is_full) (g1:P.fns.lookup "greatest" = some BK.f_greatest) (g2:P.fns.lookup "are_met" = some BK.f_are_met) (g3:P.fns.lookup "table_of" = some BK.f_table_of)
    (hb:H b=some (.book B)) (ok:BkOK B) (nd:(B.pacts.map (·.name)).Nodup) (q:∀ z g,H z=none→Grt (Zc3 B.pacts) (ndB B) (Zia B.pacts) g→Q (.ref z) (up (up H b (.book (Zdf g B))) z (.list (txs g)))):CallOK c (n + 3) true "Book.settle" [.ref b] Q E H:=by
  refine Zb3 hb fun H₂ o f s p as ib hold=>Zo6 G U hU hU0 hU1 g1 g2 g3 ib ok nd fun z g o' H' hz ho hz' hg ib' fr=>?_
  exact ⟨o',f,s,p,as,_,ib',fr,.inr ⟨z,_,rfl,Ze2 G U.a hb ib hold hz,hz',ho,q z g (Ze2 G U.a hb ib hold hz) hg⟩⟩
theorem Zvi {v:AV} (hU:P.fns.lookup "Book.state_of" = some BK.f_Book_state_of) (hb:H b=some (.book B)) (kv:Kn H v) (q:match Zch B v with | some (j,x)=>Q (.str x.state.str) H | none=>E "NoPact" H):CallOK c (n + 3) true "Book.state_of" [.ref b,v] Q E H:=by
  refine Zb3 hb fun H₂ o f s p as ib hold=>Zjz G U hU ib (kv.open hb hold) ?_
  revert q
  cases Zch B v with
  | some e=>exact fun q=>⟨o,f,s,p,as,B,ib,.refl,.inl ⟨(fun _ h=>by cases h),by rw [Ze9 hb];exact q⟩⟩
  | none=>exact fun q=>⟨o,f,s,p,as,B,ib,.refl,by rw [Ze9 hb];exact q⟩
end
end Mine
end
section
open PySem PySem.W PyProof.Rows PySem.Spec PySem.SeqAt PySem.Calls
namespace Mine
noncomputable def Zjk (d:Int) (x:Pc):Bool:=x.state == .opn && decide (x.last < d)
noncomputable def late (d:Int):Nat→Bk→Bk×List Str
  | 0,B=>(B,[])
  | m + 1,B=>match (late d m B).1.pacts[m]? with
    | some x=>if Zjk d x then (Zfs (late d m B).1 m x,(late d m B).2 ++ [x.name]) else late d m B
    | none=>late d m B
theorem Zqk {d:Int} {m:Nat} {B:Bk} {x:Pc} (h:(late d m B).1.pacts[m]? = some x):late d (m + 1) B=if Zjk d x then (Zfs (late d m B).1 m x,(late d m B).2 ++ [x.name]) else late d m B:=by
  conv=>lhs;unfold late
  rw [h]
theorem Zy9 {d:Int} {m:Nat} {B:Bk} (h:(late d m B).1.pacts[m]? = none):late d (m + 1) B=late d m B:=by
  conv=>lhs;unfold late
  rw [h]
theorem Zqm {d:Int} {m:Nat} {B:Bk}:late d (m + 1) B=late d m B∨∃ x,(late d m B).1.pacts[m]? = some x∧Zjk d x=true∧late d (m + 1) B=(Zfs (late d m B).1 m x,(late d m B).2 ++ [x.name]):=by
  cases h:(late d m B).1.pacts[m]? with
  | none=>exact .inl (Zy9 h)
  | some x =>
    cases hx:Zjk d x with
    | false=>exact .inl (by rw [Zqk h,hx,if_neg Bool.false_ne_true])
    | true=>exact .inr ⟨x,rfl,hx,by rw [Zqk h,if_pos hx]⟩
theorem Zql {d:Int} {B:Bk} (ok:BkOK B):∀ m,BkOK (late d m B).1∧(late d m B).1.pacts.length=B.pacts.length∧(late d m B).2.length≤m∧(late d m B).1.day=B.day
  | 0=>⟨ok,rfl,Nat.le_refl _,rfl⟩
  | m + 1=>by
    obtain ⟨h1,h2,h3,h4⟩:=Zql ok m
    rcases Zqm (d:=d) (m:=m) (B:=B) with e | ⟨x,hx,_,e⟩
    · rw [e];exact ⟨h1,h2,Nat.le_succ_of_le h3,h4⟩
    · rw [e]
      refine ⟨h1.fell hx,fell_len.trans h2,?_,?_⟩
      · show ((late d m B).2 ++ [x.name]).length≤m + 1
        rw [List.length_append];exact Nat.succ_le_succ h3
      · exact (SameB.all (ins:=x.inside) (l:=x.parts) (h1.giveAble hx)).1.day.trans h4
noncomputable def Z0q (B:Bk) (i:Int):Bk×List Str:=Zcw B.pacts.length (late (B.day + i) B.pacts.length { B with day:=B.day + i }).1 (late (B.day + i) B.pacts.length { B with day:=B.day + i }).2
noncomputable def Zh6 (B:Bk) (v:AV):Except String (Bk×List Str):=if Zg4 v=true∧¬ Zfq v < 1 then .ok (Z0q B (Zfq v)) else .error "NoDay"
theorem BkOK.day {B:Bk} (ok:BkOK B) (d:Int):BkOK { B with day:=d }:=⟨ok.sz,ok.both,ok.len,ok.part,ok.inl,ok.purse⟩
section
variable {c:Cx} {P:Pg} (G:Gd c P) (U:HasP P) {n:Nat} {md:Bool} {Q:AV→Zaa→Prop} {E:String→Zaa→Prop} {H:Zaa} {o:Addr→Option Role} {b f s p a:Addr} {as:List Addr} {B:Bk} {j:Nat} {x:Pc}
inductive Zzy (o:Addr→Option Role) (H:Zaa) (b f s p:Addr) (as:List Addr) (d:Int) (B:Bk) (v:AV) (z zv:Addr) (m:Nat) (V':VV) (H':Zaa):Prop
  | mk (o':Addr→Option Role) (pr:Option AV) (hV:V'=[some (.ref b),some v,some (.ref z),pr]) (ib:IsBook o' H' b f s p as (late d m B).1) (fr:Fr1 o H o' H') (hz:H' z=some (.list (txs (late d m B).2))) (ho:o' z=none) (hv:H' zv=some (.list (as.map .ref))) (hvo:o' zv=none) (hne:zv≠z):Zzy o H b f s p as d B v z zv m V' H'
include G U
theorem Zsr {v:AV} (hU0:P.fns.lookup "Book.pass_days" = some BK.f_Book_pass_days) (hU:P.fns.lookup "Book.dragged" = some BK.f_Book_dragged) (hU1:P.fns.lookup "Book.first_dragged" = some BK.f_Book_first_dragged) (hU2:P.fns.lookup "Book.fell" = some BK.f_Book_fell) (hU3:P.fns.lookup "Book.given_back" = some BK.f_Book_given_back)
    (ib:IsBook o H b f s p as B) (ok:BkOK B) (hw:Kn H v)
    (q:match Zh6 B v with | .ok r=>∀ z o' H',H z=none→o' z=none→H' z=some (.list (txs r.2))→IsBook o' H' b f s p as r.1→Fr1 o H o' H'→Q (.ref z) H' | .error cl=>E cl H):CallOK c (n + 4) true "Book.pass_days" [.ref b,v] Q E H:=by
  refine G.call (F:=BK.f_Book_pass_days) hU0 rfl ?_
  have hA:c.P.attrs=BK.attrs:=by rw [G.hP,U.a.attrs]
  have hM:c.P.meths=BK.meths:=by rw [G.hP,U.a.meths]
  show wpSs _ _ _ _ _ [some (.ref b),some v,none,none] _
  refine w_st fun K nx=>?_
  dsimp only [Zay,x_ao,Zaz,Zbb,Zam,Zac,Zae]
  show CallOK _ _ _ _ [v] _ _ _
  refine Ze5 G U.a hw ?_
  unfold Zh6 at q
  cases hwb:Zg4 v with
  | false =>
    rw [hwb,if_neg (fun z=>Bool.false_ne_true z.1)] at q
    exact ⟨rfl,q⟩
  | true =>
  rw [hwb] at q
  cases v with
  | int i =>
    show wpAO _ false [_] _ _ _ _
    dsimp only [Zba,Zap,Zae]
    show wpX _ (.lit (.int 1)) _ _ _ _
    dsimp only [Zah,c_lt,Zai]
    by_cases hi:i < 1
    · rw [decide_eq_true hi]
      rw [if_neg (fun z=>z.2 hi)] at q
      exact ⟨rfl,q⟩
    rw [decide_eq_false hi]
    rw [if_pos ⟨rfl,hi⟩] at q
    refine nx _ _ ?_
    refine w_st fun K nx=>?_
    dsimp only [Zaj,Zau]
    refine Zrq hA ib rfl ?_
    dsimp only [Zae]
    show wbin .Add (.int B.day) (.int i) _ _
    dsimp only [Zb5]
    refine st_a rfl (by rw [hA];rfl) ib.hb (by exact (show 4≤100 by decide)) (nx _ _ ?_)
    have ib1:=ib.setDay (B.day + i)
    have f1:Fr1 o H o (up H b (.inst "Book" [("day",.int (B.day + i)),("free",.ref f),("aside",.ref s),("pacts",.ref p)])):=Zi3 (by rw [ib.ob];simp)
    show wpSs _ _ _ _ _ _ (up H b (.inst "Book" [("day",.int (B.day + i)),("free",.ref f),("aside",.ref s),("pacts",.ref p)]))
    generalize up H b (.inst "Book" [("day",.int (B.day + i)),("free",.ref f),("aside",.ref s),("pacts",.ref p)])=H1 at ib1 f1
    refine w_st fun K nx=>?_
    dsimp only [Zaj,Zaw,Zaf]
    intro z hz
    refine ⟨show 2 < 4 by decide,nx _ _ ?_⟩
    obtain ⟨ib2,f2⟩:=ib1.fresh hz (.list [])
    have hz2:up H1 z (.list []) z=some (.list []):=Zad
    have hzo:(fun a=>if a=z then none else o a) z=(none:Option Role):=if_pos rfl
    generalize (fun a=>if a=z then none else o a)=o2 at ib2 f2 hzo
    generalize up H1 z (.list [])=H2 at ib2 f2 hz2
    have hz0:H z=none:=f1.gr z hz
    refine w_st fun K nx=>?_
    dsimp only [Zbd]
    refine ⟨rfl,?_⟩
    refine Zg6 hA rfl ib2 ok.len rfl fun zv o3 H3 hzv0 hzvo hzv ib3 f3=>?_
    obtain ⟨_,e2⟩:=Zf8 ib3.ps
    obtain ⟨hz3,hzo3⟩:=f3.old _ _ hz2 hzo
    have okd:=Zql (d:=B.day + i) (ok.day (B.day + i))
    refine Zd0 (xs:=as.map .ref) (by simp only [Zas,hzv]) (Zzy o H b f s p as (B.day + i) { B with day:=B.day + i } (.int i) z zv) ⟨o3,none,rfl,ib3,(f1.trans f2).trans f3,hz3,hzo3,hzv,hzvo,fun e=>by rw [e,hz2] at hzv0;cases hzv0⟩ ?_
    rintro I hI m V' H' ⟨o',pr,rfl,ib',fr',hz',ho',hv',hvo',hne⟩
    obtain ⟨okm,hlen,hl2,hday⟩:=okd m
    refine ⟨hv'.trans hzv.symm,fun hm=>?_,fun y hy=>?_⟩
    · rw [List.length_map,e2] at hm
      subst hm
      refine nx _ _ ?_
      refine w_st fun K nx=>?_
      dsimp only [Zbt]
      refine Zbh hM (by decide) (by decide) ib' rfl ?_
      dsimp only [Zac,Zae]
      show wpXs _ [] _ _ _ _
      dsimp only [Zaf]
      refine Zix G U hU hU1 hU2 hU3 ib' okm hz' ho' (Nat.le_trans hl2 (Nat.le_trans ok.len (by decide))) fun z' o'' H'' h1 h2 h3 h4 h5=>?_
      rw [hlen] at h3 h4
      exact q z' o'' H'' (fr'.gr z' h1) h2 h3 h4 (fr'.trans h5)
    rw [List.getElem?_map,Option.map_eq_some_iff] at hy
    obtain ⟨a,ha,rfl⟩:=hy
    obtain ⟨x,hx⟩:∃ x,(late (B.day + i) m { B with day:=B.day + i }).1.pacts[m]? = some x:=⟨_,List.getElem?_eq_getElem (by rw [hlen];show m < B.pacts.length;rw [← e2];exact (List.getElem?_eq_some_iff.mp ha).1)⟩
    have ip:=ib'.pact hx ha
    refine ⟨show 3 < 4 by decide,?_⟩
    refine w_st fun K2 nx2=>?_
    show wpS _ _ _ _ _ [some (.ref b),some (.int i),some (.ref z),some (.ref a)] _
    have hstep:=Zqk hx
    have skip:Zjk (B.day + i) x=false→I (m + 1) [some (.ref b),some (.int i),some (.ref z),some (.ref a)] H':=fun h=>by
      rw [h,if_neg Bool.false_ne_true] at hstep
      exact hI _ _ _ ⟨o',_,rfl,by rw [hstep];exact ib',fr',by rw [hstep];exact hz',ho',hv',hvo',hne⟩
    dsimp only [Zay,x_ao,Zaz,Zap]
    refine Zff hA ip rfl ?_
    (dsimp only [Zah,Zcf,Zai];rw [Zlb])
    cases hs:x.state == Sta.opn with
    | false=>exact nx2 _ _ (skip (by unfold Zjk;rw [hs];rfl))
    | true =>
    show wpAO _ true [_] _ _ _ _
    dsimp only [Zba,Zap]
    refine Zv8 hA ip rfl ?_
    refine Zrq hA ib' rfl ?_
    rw [hday]
    show wcmp .Lt (.int x.last) (.int (B.day + i)) _ _
    dsimp only [c_lt,Zai]
    by_cases hlt:x.last < B.day + i
    · rw [decide_eq_true hlt]
      have hlb:Zjk (B.day + i) x=true:=by unfold Zjk;rw [hs,decide_eq_true hlt];rfl
      rw [hlb,if_pos rfl] at hstep
      show wpSs _ _ _ _ _ [some (.ref b),some (.int i),some (.ref z),some (.ref a)] _
      refine w_st fun K3 nx3=>?_
      dsimp only [Zal,x_bm,Zae]
      refine ⟨?_,?_⟩
      · show match H' z with | some (.list _)=>_ | some (.dict _ _)=>_ | _=>False
        rw [hz'];exact .inl rfl
      dsimp only [Zac]
      refine Zbh hM (by decide) (by decide) ib' rfl ?_
      dsimp only [Zac,Zae]
      show wpXs _ [] _ _ _ _
      refine Eq.mpr (Zaf) ?_
      refine Zl4 G U hU2 hU3 ib' okm hx ha fun o4 H4 ib4 f4=>?_
      obtain ⟨hz4,hzo4⟩:=f4.old _ _ hz' ho'
      obtain ⟨hv4,hvo4⟩:=f4.old _ _ hv' hvo'
      rw [Zaf]
      refine Zc8 hz4 (by rw [Zan];exact Nat.le_trans hl2 (Nat.le_trans (Nat.le_of_lt (List.getElem?_eq_some_iff.mp hx).1) (Nat.le_trans (Nat.le_of_eq hlen) (Nat.le_trans ok.len (by decide))))) (nx3 _ _ (nx2 _ _ ?_))
      rw [Zd1]
      refine hI _ _ _ ⟨o4,_,rfl,by rw [hstep];exact ib4.upN hzo4 _,⟨fun y v hy hyo=>?_,fun y h=>(fr'.trans f4).gr y (Zde h)⟩,by rw [hstep];exact Zad,hzo4,by rw [Zab hne];exact hv4,hvo4,hne⟩
      have:=(fr'.trans f4).old y v hy hyo
      exact ⟨by rw [Zab (fun e=>by rw [e,hz0] at hy;cases hy)];exact this.1,this.2⟩
    · rw [decide_eq_false hlt]
      exact nx2 _ _ (skip (by unfold Zjk;rw [decide_eq_false hlt,Bool.and_false]))
  | _=>cases hwb
end
end Mine
end
section
open PySem PySem.W PyProof.Rows PySem.Spec PySem.SeqAt PySem.Calls
namespace Mine
noncomputable def Zat (x:Pc):List Str:=(x.parts.filter fun e=>decide (e.1∈x.inside)).map (·.1)
theorem Zel {Q:AV→Zaa→Prop} {stp:AV→(Option AV→Zaa→Prop)→Zaa→Prop} {v:AV} {H:Zaa} {xs:List AV} (hx:Zas H v=some xs) (hl:xs.length≤sizeLine) (f:AV→Option AV)
    (hs:∀ x∈xs,∀ nx:Option AV→Zaa→Prop,nx (f x) H→stp x nx H) (q:∀ a,H a=none→Q (.ref a) (up H a (.list (xs.filterMap f)))):Zk7 Q stp v H:=by
  refine ⟨xs,hx,hl,fun k acc H'=>H'=H∧acc=(xs.take k).filterMap f,⟨rfl,rfl⟩,?_⟩
  rintro k acc H' ⟨rfl,rfl⟩
  refine ⟨?_,fun hk a ha=>?_,fun x hxk=>?_⟩
  · cases v with
    | ref a=>exact rfl
    | _=>trivial
  · rw [hk,List.take_length];exact q a ha
  · refine hs x (List.mem_of_getElem? hxk) _ ⟨rfl,?_⟩
    rw [Za5 hxk,List.filterMap_append]
    cases hf:f x <;> simp [hf]
section
variable {c:Cx} {P:Pg} (G:Gd c P) (U:HasP P) {n:Nat} {md:Bool} {Q:AV→Zaa→Prop} {E:String→Zaa→Prop} {H:Zaa} {o:Addr→Option Role} {b f s p a:Addr} {as:List Addr} {B:Bk} {j:Nat} {x:Pc}
noncomputable def insF (H:Zaa) (x:Pc):AV→Option AV
  | .ref t=>(match H t with
    | some (.tuple [.str k,_])=>if k∈x.inside then some (.str k) else none
    | _=>none)
  | _=>none
theorem Zm0 {t:Addr} {k:Str} {i:Int} (h:H t=some (.tuple [.str k,.int i])):insF H x (.ref t)=if k∈x.inside then some (.str k) else none:=by
  show (match H t with | some (.tuple [.str k,_])=>if k∈x.inside then some (AV.str k) else none | _=>none)=_
  rw [h]
theorem Zm1:∀ {ts:List Addr} {l:List (Str×Int)},pairsAV o H ts l→(ts.map AV.ref).filterMap (insF H x)=txs ((l.filter fun e=>decide (e.1∈x.inside)).map (·.1))
  | [],[],_=>rfl
  | t :: ts,e :: l,h=>by
    rw [List.map_cons,List.filterMap_cons,Zm0 h.2.1,List.filter_cons,Zm1 h.2.2]
    by_cases hi:e.1∈x.inside
    · rw [if_pos hi,if_pos (decide_eq_true hi)];rfl
    · rw [if_neg hi,if_neg (by rw [decide_eq_false hi];exact Bool.false_ne_true)]
  | [],_ :: _,h=>h.elim
  | _ :: _,[],h=>h.elim
include G U
theorem Zof {v:AV} (hU:P.fns.lookup "Book.inside_of" = some BK.f_Book_inside_of) (ib:IsBook o H b f s p as B) (ok:BkOK B) (hk:Kn H v)
    (q:match Zch B v with | some (j,x)=>∀ z,H z=none→Q (.ref z) (up H z (.list (txs (Zat x)))) | none=>E "NoPact" H):CallOK c (n + 3) true "Book.inside_of" [.ref b,v] Q E H:=by
  refine G.call (F:=BK.f_Book_inside_of) hU rfl ?_
  have hA:c.P.attrs=BK.attrs:=by rw [G.hP,U.a.attrs]
  have hM:c.P.meths=BK.meths:=by rw [G.hP,U.a.meths]
  show wpSs _ _ _ _ _ [some (.ref b),some v,none] _
  refine w_st fun K nx=>?_
  rw [Zaj]
  refine Zbh hM (by decide) (by decide) ib rfl ?_
  rw [Zac,Zae]
  show wpXs _ [] _ _ _ _
  rw [Zaf]
  refine Zef G U ib hk ?_
  cases e:Zch B v with
  | none=>rw [e] at q;exact q
  | some z =>
    obtain ⟨j,x⟩:=z
    rw [e] at q
    intro a ha ip
    have hj:=Zcn e
    refine ⟨show 2 < 3 by decide,nx _ _ ?_⟩
    refine w_st fun K nx=>?_
    rw [Zbt,Za8]
    refine ⟨rfl,?_⟩
    refine Zfg hA ip rfl fun zp ⟨hz,ts,hts,hl⟩=>?_
    refine Zel (xs:=ts.map .ref) (by simp only [Zas,hts]) (by rw [List.length_map,Zdh hl];exact Nat.le_trans (ok.inl j x hj).2.1 (by decide)) (insF H x) (fun y hy nx hnx=>?_) fun w hw=>?_
    · obtain ⟨t,ht,rfl⟩:=List.mem_map.mp hy
      obtain ⟨m,hm,rfl⟩:=List.mem_iff_getElem.mp ht
      obtain ⟨e,he,htd,htt⟩:=Zdw hl (List.getElem?_eq_getElem hm)
      rw [Zm0 htt] at hnx
      rw [if_neg (by decide),Zbn]
      refine Zm2 (no:=false) (k:=e.1) hA ib hj ha ip rfl (fun Q' h=>Zjh htt h) ?_
      rw [Zai,show ((decide (e.1∈x.inside)) != false)=decide (e.1∈x.inside) from Bool.xor_false _]
      by_cases hi:e.1∈x.inside
      · rw [decide_eq_true hi,if_pos rfl,Zar,Zae]
        rw [if_pos hi] at hnx
        exact Zjh htt hnx
      · rw [decide_eq_false hi,if_neg Bool.false_ne_true]
        rw [if_neg hi] at hnx
        exact hnx
    · rw [Zm1 hl]
      exact q w hw
theorem Zti {v:AV} (hU:P.fns.lookup "Book.inside_of" = some BK.f_Book_inside_of) (hb:H b=some (.book B)) (ok:BkOK B) (kv:Kn H v)
    (q:match Zch B v with | some (j,x)=>∀ z,H z=none→Q (.ref z) (up H z (.list (txs (Zat x)))) | none=>E "NoPact" H):CallOK c (n + 3) true "Book.inside_of" [.ref b,v] Q E H:=by
  refine Zb3 hb fun H₂ o f s p as ib hold=>Zof G U hU ib ok (kv.open hb hold) ?_
  revert q
  cases Zch B v with
  | some e =>
    intro q z hz
    have hz0:=Ze2 G U.a hb ib hold hz
    have t78:=ib.fresh hz (.list (txs (Zat e.2)))
    have ib':=t78.1
    have f':=t78.2
    exact ⟨_,f,s,p,as,B,ib',f',.inr ⟨z,_,rfl,hz0,Zad,if_pos rfl,by rw [Ze9 hb];exact q z hz0⟩⟩
  | none=>exact fun q=>⟨o,f,s,p,as,B,ib,.refl,by rw [Ze9 hb];exact q⟩
theorem Zyb {v:AV} (hU0:P.fns.lookup "Book.pass_days" = some BK.f_Book_pass_days) (hU:P.fns.lookup "Book.dragged" = some BK.f_Book_dragged) (hU1:P.fns.lookup "Book.first_dragged" = some BK.f_Book_first_dragged) (hU2:P.fns.lookup "Book.fell" = some BK.f_Book_fell) (hU3:P.fns.lookup "Book.given_back" = some BK.f_Book_given_back)
    (hb:H b=some (.book B)) (ok:BkOK B) (kw:Kn H v) (q:match Zh6 B v with | .ok r=>∀ z,H z=none→Q (.ref z) (up (up H b (.book r.1)) z (.list (txs r.2))) | .error cl=>E cl H):CallOK c (n + 4) true "Book.pass_days" [.ref b,v] Q E H:=by
  refine Zb3 hb fun H₂ o f s p as ib hold=>Zsr G U hU0 hU hU1 hU2 hU3 ib ok (kw.open hb hold) ?_
  revert q
  cases Zh6 B v with
  | ok r=>exact fun q z o' H' hz ho hz' ib' fr=>⟨o',f,s,p,as,r.1,ib',fr,.inr ⟨z,_,rfl,Ze2 G U.a hb ib hold hz,hz',ho,q z (Ze2 G U.a hb ib hold hz)⟩⟩
  | error cl=>exact fun q=>⟨o,f,s,p,as,B,ib,.refl,by rw [Ze9 hb];exact q⟩
end
end Mine
end
section
open PySem PySem.W PyProof.Rows PySem.Spec PySem.SeqAt PySem.Calls
namespace Mine
theorem Zqx {l:List (Str×Int)} {k:Str}:hs l k=decide (k∈l.map (·.1)):=by
  unfold hs lk
  rw [Option.isSome_map,Bool.eq_iff_iff,List.find?_isSome]
  simp
noncomputable def Kb (b:Addr) (H H':Zaa):Prop:=∀ a x,a≠b→H a=some x→H' a=some x
theorem Kb.refl {b:Addr} {H:Zaa}:Kb b H H:=fun _ _ _ h=>h
theorem Kb.trans {b:Addr} {H H' H'':Zaa} (x:Kb b H H') (y:Kb b H' H''):Kb b H H'':=fun a o n h=>y a o n (x a o n h)
theorem Kb.ext {b:Addr} {H H':Zaa} (x:Ext H H'):Kb b H H':=fun a o _ h=>x a o h
theorem Kb.up {b:Addr} {H:Zaa} {y:AObj}:Kb b H (Mine.up H b y):=fun a o n h=>by rw [Zab n];exact h
section
variable {g:Gx} {V:VV} {Q:AV→Zaa→Prop} {E:String→Zaa→Prop} {H:Zaa} {b:Addr} {B:Bk}
theorem Zcx {i:Nat} {m:String} {xs:List X} (hP:g.c.P.meths=BK.meths) (hm:BK.meths.contains ("Book",m)=true) (hn:bookAttrs.contains m=false) (hb:H b=some (.book B)) (hV:V[i]? = some (some (.ref b)))
    (q:wpXs g xs V (fun vs H=>CallOK g.c g.n g.md ("Book." ++ m) (.ref b :: vs) Q E H) E H):wpX g (.meth (.var i) m xs) V Q E H:=by
  simp only [Za3,Zbg,Zae,hV,hb]
  exact ⟨by rw [hP];exact hm,hn,q⟩
theorem pairsH.ext {H':Zaa} (hE:Ext H H'):∀ {ts:List Addr} {l:List (AV×AV)},pairsH H ts l→pairsH H' ts l
  | [],[],_=>trivial
  | _ :: _,_ :: _,h=>⟨⟨rfl,hE _ _ h.1.2.1,h.1.2.2⟩,pairsH.ext hE h.2⟩
  | [],_ :: _,h=>h.elim
  | _ :: _,[],h=>h.elim
theorem Kv.str {s:Str} (h:s.length < 2 ^ 62):Kv (.str s):=⟨(fun a h=>by cases h),fun t e=>by cases e;exact h⟩
theorem Kv.int {i:Int}:Kv (.int i):=⟨(fun a h=>by cases h),fun t e=>by cases e⟩
end
noncomputable def dV:AV→PyData
  | .none=>.none
  | .bool b=>.bool b
  | .int i=>.int i
  | .str s=>.str s
  | .ref _=>.none
theorem Zzr {v:AV}:PyData.eqv (dV v) (dV v)=true:=by
  cases v with
  | none=>rfl
  | bool b=>exact beq_self_eq_true b
  | int i=>exact beq_self_eq_true i
  | str s=>exact beq_self_eq_true s
  | ref a=>rfl
theorem Zb9 {H:Zaa}:∀ {ts:List Addr} {l:List (AV×AV)},pairsH H ts l→ts.length=l.length
  | [],[],_=>rfl
  | _ :: _,_ :: _,h=>congrArg Nat.succ (Zb9 h.2)
  | [],_ :: _,h=>h.elim
  | _ :: _,[],h=>h.elim
theorem Kv.none:Kv .none:=⟨(fun a h=>by cases h),fun t e=>by cases e⟩
theorem Kv.bool {b:Bool}:Kv (.bool b):=⟨(fun a h=>by cases h),fun t e=>by cases e⟩
end Mine
end
section
open PySem PySem.W PyProof.Rows PySem.Spec PySem.SeqAt PySem.Calls
namespace Mine
noncomputable def vl (l:List (Str×Int)) (s:Str):Int:=(lk l s).getD 0
noncomputable def sAt (ps:List (Str×Int)) (s:Str):Int:=(ps.map fun e=>if e.1=s then e.2 else 0).sum
noncomputable def sm {α:Type} (l:List α) (f:α→Int):Int:=(l.map f).sum
section
variable {α:Type} {l:List α} {f g:α→Int}
theorem Zuh:sm l (fun x=>f x + g x)=sm l f + sm l g:=by
  induction l with
  | nil=>rfl
  | cons a l ih=>show f a + g a + sm l _=f a + sm l f + (g a + sm l g);rw [ih];lia
theorem Zvm (h:∀ x∈l,f x=g x):sm l f=sm l g:=congrArg List.sum (List.map_congr_left h)
theorem Zfx (h:∀ x∈l,f x=0):sm l f=0:=by
  induction l with
  | nil=>rfl
  | cons a l ih=>show f a + sm l f=0;rw [h a (.head _),ih fun x hx=>h x (.tail _ hx)];rfl
theorem Zxx {l':List α}:sm (l ++ l') f=sm l f + sm l' f:=by
  induction l with
  | nil=>exact (Int.zero_add _).symm
  | cons a l ih=>show f a + sm (l ++ l') f=f a + sm l f + sm l' f;rw [ih];lia
theorem Zxv {ks:List Str} {k:Str} {i:Int} (nd:ks.Nodup) (hk:k∈ks):sm ks (fun s=>if k=s then i else 0)=i:=by
  induction ks with
  | nil=>cases hk
  | cons a ks ih =>
    obtain ⟨h1,h2⟩:=List.nodup_cons.mp nd
    show (if k=a then i else 0) + sm ks _=i
    by_cases e:k=a
    · rw [if_pos e,Zfx fun x hx=>if_neg fun q=>h1 (by rw [← e,q];exact hx)];exact Int.add_zero i
    · rw [if_neg e,ih h2 ((List.mem_cons.mp hk).resolve_left e)];exact Int.zero_add i
end
theorem Zgt {e:Str×Int} {ps:List (Str×Int)} {s:Str}:sAt (e :: ps) s=(if e.1=s then e.2 else 0) + sAt ps s:=rfl
theorem Zuj {ps:List (Str×Int)} {s:Str} (h:s ∉ ps.map (·.1)):sAt ps s=0:=Zfx (l:=ps) fun e he=>if_neg fun q=>h (List.mem_map.mpr ⟨e,he,q⟩)
theorem Zvw {ks:List Str} {ps:List (Str×Int)} (nd:ks.Nodup) (h:∀ e∈ps,e.1∈ks):sm ks (sAt ps)=sumL ps:=by
  induction ps with
  | nil=>exact Zfx fun _ _=>rfl
  | cons e ps ih =>
    have:sm ks (sAt (e :: ps))=sm ks (fun s=>if e.1=s then e.2 else 0) + sm ks (sAt ps):=Zuh
    rw [this,Zxv nd (h e (.head _)),ih fun x hx=>h x (.tail _ hx)];rfl
theorem Zmw {e:Str×Int} {l:List (Str×Int)} {s:Str}:vl (e :: l) s=if e.1=s then e.2 else vl l s:=by
  unfold vl;rw [Zeh];split <;> rfl
theorem Zud {l:List (Str×Int)} (nd:(l.map (·.1)).Nodup):sm (l.map (·.1)) (vl l)=sumL l:=by
  have:∀ s∈l.map (·.1),vl l s=sAt l s:=by
    induction l with
    | nil=>exact fun s hs=>by cases hs
    | cons e l ih =>
      obtain ⟨h1,h2⟩:=List.nodup_cons.mp nd
      intro s hs
      (rw [Zmw];dsimp only [Zgt])
      by_cases q:e.1=s
      · rw [if_pos q,if_pos q,Zuj (by rw [← q];exact h1),Int.add_zero]
      · rw [if_neg q,if_neg q,Int.zero_add]
        exact ih h2 s ((List.mem_cons.mp hs).resolve_left fun z=>q z.symm)
  rw [Zvm this,Zvw nd fun e he=>List.mem_map.mpr ⟨e,he,rfl⟩]
theorem Ze4 {l:List (Str×Int)} {k:Str} {v:Int} (h:hs l k=true):(pt l k v).map (·.1)=l.map (·.1):=by
  unfold pt
  rw [if_pos (show (lk l k).isSome=true from h),List.map_map]
  apply List.map_congr_left
  intro e _
  show (if e.1=k then (e.1,v) else e).1=e.1
  split <;> rfl
theorem Zow {l:List (Str×Int)} {k s:Str} {v:Int}:vl (pt l k v) s=if s=k then v else vl l s:=by
  unfold vl
  rw [Zy6]
  split <;> rfl
theorem Zw0 {l l':List (Str×Int)} (h:l.map (·.1)=l'.map (·.1)) {k:Str}:hs l k=hs l' k:=by rw [Zqx,Zqx,h]
structure Dif (l l':List (Str×Int)) (d:Str→Int):Prop where
  k:l'.map (·.1)=l.map (·.1)
  v:∀ s,vl l' s=vl l s + d s
theorem Dif.refl {l:List (Str×Int)}:Dif l l fun _=>0:=⟨rfl,fun _=>(Int.add_zero _).symm⟩
theorem Dif.trans {l l' l'':List (Str×Int)} {d d':Str→Int} (a:Dif l l' d) (b:Dif l' l'' d'):Dif l l'' fun s=>d s + d' s:=⟨b.k.trans a.k,fun s=>by rw [b.v,a.v,Int.add_assoc]⟩
theorem Dif.of {l l':List (Str×Int)} {d d':Str→Int} (a:Dif l l' d) (h:∀ s,d s=d' s):Dif l l' d':=⟨a.k,fun s=>by rw [a.v,h]⟩
theorem Dif.pt {l:List (Str×Int)} {k:Str} {i:Int} (h:hs l k=true):Dif l (Mine.pt l k ((lk l k).getD 0 + i)) fun s=>if k=s then i else 0:=⟨Ze4 h,fun s=>by
  rw [Zow]
  by_cases e:s=k
  · rw [if_pos e,if_pos e.symm,e];rfl
  · rw [if_neg e,if_neg fun q=>e q.symm,Int.add_zero]⟩
theorem Dif.sum {l l':List (Str×Int)} {d:Str→Int} (a:Dif l l' d) (nd:(l.map (·.1)).Nodup):sumL l'=sumL l + sm (l.map (·.1)) d:=by
  rw [← Zud nd,← Zud (l:=l') (by rw [a.k];exact nd),a.k,← Zuh]
  exact Zvm fun s _=>a.v s
theorem Dif.hs {l l':List (Str×Int)} {d:Str→Int} (a:Dif l l' d) {k:Str}:Mine.hs l' k=Mine.hs l k:=Zw0 a.k
theorem Zux {l l':List Str} (nd:l.Nodup) (h:∀ k∈l,k∈l'):l.length≤l'.length:=by
  induction l generalizing l' with
  | nil=>exact Nat.zero_le _
  | cons a l ih =>
    obtain ⟨h1,h2⟩:=List.nodup_cons.mp nd
    have ha:=h a (.head _)
    have:=ih (l':=l'.erase a) h2 fun k hk=>(List.mem_erase_of_ne (show k≠a from fun q=>h1 (q ▸ hk))).mpr (h k (.tail _ hk))
    rw [List.length_erase_of_mem ha] at this
    have h0:0 < l'.length:=List.length_pos_of_mem ha
    show l.length + 1≤l'.length
    omega
theorem Zyt {l l':List Str} (nd:l.Nodup) (h:∀ k∈l,k∈l') (hl:l'.length≤l.length) {k:Str} (hk:k∈l'):k∈l:=Classical.byContradiction fun hn=>by
  have:=Zux (l:=k :: l) (l':=l') (List.nodup_cons.mpr ⟨hn,nd⟩) fun x hx=>by
    rcases List.mem_cons.mp hx with rfl | hx
    · exact hk
    · exact h x hx
  have h1:l.length + 1≤l'.length:=this
  lia
end Mine
end
section
open PySem PySem.W PyProof.Rows PySem.Spec PySem.SeqAt PySem.Calls
namespace Mine
noncomputable def held (x:Pc):List (Str×Int):=x.parts.filter fun e=>decide (e.1∈x.inside)
noncomputable def back (x:Pc) (st:Sta):List (Str×Int):=if st = .dn then x.gains else held x
noncomputable def gone (x:Pc) (st:Sta):List (Str×Int):=if st = .dn then x.parts else held x
noncomputable def Pc.end (x:Pc) (st:Sta):Pc:={ x with inside:=[],state:=st }
structure Zor (B B':Bk) (j:Nat) (x:Pc) (st:Sta):Prop where
  at_:B.pacts[j]? = some x
  op:x.state = .opn
  hw:st = .fln∨st = .dn∧Zet x=true
  ps:B'.pacts=B.pacts.set j (x.end st)
  f:Dif B.free B'.free (sAt (back x st))
  a:Dif B.aside B'.aside fun s=>- sAt (gone x st) s
theorem Dif.sub {l:List (Str×Int)} {k:Str} {i:Int} (h:Mine.hs l k=true):Dif l (Mine.pt l k ((lk l k).getD 0 - i)) fun s=>- (if k=s then i else 0):=(Dif.pt (i:=- i) h).of fun s=>by split <;> rfl
theorem Zp5 {e:Str×Int} {ps:List (Str×Int)} {s:Str}:- (if e.1=s then e.2 else 0) + - sAt ps s = - sAt (e :: ps) s:=by (dsimp only [Zgt];rw [Int.neg_add])
theorem Ztp {ins:List Str} {l:List (Str×Int)} {B:Bk} (h:∀ e∈l,hs B.free e.1=true∧hs B.aside e.1=true):Dif B.free (Zcv ins l B).free (sAt (l.filter fun e=>decide (e.1∈ins)))∧Dif B.aside (Zcv ins l B).aside fun s=>- sAt (l.filter fun e=>decide (e.1∈ins)) s:=by
  induction l generalizing B with
  | nil=>exact ⟨.refl,.refl⟩
  | cons e l ih =>
    obtain ⟨h1,h2⟩:=h e (.head _)
    unfold Zcv
    by_cases q:e.1∈ins
    · rw [if_pos q,List.filter_cons,if_pos (decide_eq_true q)]
      have d1:=Dif.pt (i:=e.2) h1
      have d2:=Dif.sub (i:=e.2) h2
      obtain ⟨g1,g2⟩:=ih (B:=Zh9 B e.1 e.2) fun y hy=>⟨d1.hs.trans (h y (.tail _ hy)).1,d2.hs.trans (h y (.tail _ hy)).2⟩
      exact ⟨d1.trans g1,(d2.trans g2).of fun s=>Zp5⟩
    · rw [if_neg q,List.filter_cons,if_neg (fun z=>q (of_decide_eq_true z))]
      exact ih fun y hy=>h y (.tail _ hy)
theorem Zpp:∀ {l:List (Str×Int)} {B:Bk},(∀ e∈l,hs B.aside e.1=true)→(payAll l B).free=B.free∧Dif B.aside (payAll l B).aside fun s=>- sAt l s
  | [],B,_=>⟨rfl,.refl⟩
  | e :: l,B,h=>by
    have d:=Dif.sub (i:=e.2) (h e (.head _))
    obtain ⟨g1,g2⟩:=Zpp (l:=l) (B:={ B with aside:=pt B.aside e.1 ((lk B.aside e.1).getD 0 - e.2) }) fun y hy=>d.hs.trans (h y (.tail _ hy))
    exact ⟨g1,(d.trans g2).of fun s=>Zp5⟩
theorem Zm8:∀ {l:List (Str×Int)} {B:Bk},(∀ e∈l,hs B.free e.1=true)→Dif B.free (gainAll l B).free (sAt l)∧(gainAll l B).aside=B.aside
  | [],B,_=>⟨.refl,rfl⟩
  | e :: l,B,h=>by
    have d:=Dif.pt (i:=e.2) (h e (.head _))
    obtain ⟨g1,g2⟩:=Zm8 (l:=l) (B:={ B with free:=pt B.free e.1 ((lk B.free e.1).getD 0 + e.2) }) fun y hy=>d.hs.trans (h y (.tail _ hy))
    exact ⟨d.trans g1,g2⟩
theorem Zhe {B:Bk} {j:Nat} {x:Pc} (ok:BkOK B) (hj:B.pacts[j]? = some x) (ho:x.state = .opn):Zor B (Zfs B j x) j x .fln :=
  have d:=Ztp (ins:=x.inside) (ok.giveAble hj)
  ⟨hj,ho,.inl rfl,rfl,d.1,d.2⟩
theorem Zo2 {B:Bk} {j:Nat} {x:Pc} (ok:BkOK B) (hj:B.pacts[j]? = some x) (hf:Zet x=true):Zor B (Zre B j x) j x .dn:=by
  have d1:=Zpp (l:=x.parts) (B:=B) fun e he=>(ok.giveAble hj e he).2
  have d2:=Zm8 (l:=x.gains) (B:=payAll x.parts B) fun e he=>by rw [d1.1];exact ok.purse j x hj e (.inr he)
  rw [d1.1] at d2
  exact ⟨hj,beq_iff_eq.mp (Bool.and_eq_true _ _ ▸ hf:_∧_).1,.inr ⟨rfl,hf⟩,rfl,d2.1,by rw [show (Zre B j x).aside=(payAll x.parts B).aside from d2.2];exact d1.2⟩
theorem Zv9 {x x' y:Pc} {k:Str} {ps:List Pc} {j m:Nat} (h:ps[j]? = some x) (e:x'.name=x.name) (hp:pAt ps k=some (m,y)) (hm:m≠j):pAt (ps.set j x') k=some (m,y):=by
  induction ps generalizing j m with
  | nil=>cases h
  | cons q r ih =>
    unfold pAt at hp
    cases j with
    | zero =>
      cases h
      show pAt (x' :: r) k=_
      unfold pAt
      by_cases z:x.name=k
      · rw [if_pos z] at hp;cases hp;exact absurd rfl hm
      · rw [if_neg z] at hp
        rw [if_neg (by rw [e];exact z)];exact hp
    | succ j =>
      show pAt (q :: r.set j x') k=_
      unfold pAt
      by_cases z:q.name=k
      · rw [if_pos z] at hp ⊢;exact hp
      · rw [if_neg z] at hp ⊢
        obtain ⟨⟨m',y'⟩,h1,h2⟩:=Option.map_eq_some_iff.mp hp
        cases h2
        rw [ih h h1 fun q=>hm (congrArg (· + 1) q)];rfl
section
variable {P:Bk→Prop} (ok:∀ {B},P B→BkOK B) (st:∀ {B B' j x},P B→Zor B B' j x .fln→P B')
include ok st
theorem Zhz:∀ {n:Nat} {B:Bk} {l:List Str},P B→P (Zcw n B l).1
  | 0,_,_,h=>h
  | n + 1,B,l,h=>by
    cases e:Zdy B with
    | none=>rw [Zgl e];exact h
    | some w =>
      obtain ⟨h1,h2⟩:=Zq7 (m:=w.1) (x:=w.2) e
      rw [Zgk e]
      exact Zhz (st h (Zhe (ok h) h1 (beq_iff_eq.mp (Bool.and_eq_true _ _ ▸ h2:_∧_).1)))
theorem Zfp {B:Bk} {d:Int} (h:P B):∀ m,P (late d m B).1
  | 0=>h
  | m + 1=>by
    rcases Zqm (d:=d) (m:=m) (B:=B) with e | ⟨x,hx,hl,e⟩
    · rw [e];exact Zfp h m
    · rw [e]
      exact st (Zfp h m) (Zhe (ok (Zfp h m)) hx (beq_iff_eq.mp (Bool.and_eq_true _ _ ▸ hl:_∧_).1))
set_option tactic.hygienic true in
theorem Zmp {B:Bk} {w:AV} {r:Bk×List Str} (h:P B) (e:offQ B w = .ok r):P r.1:=by
  unfold offQ at e
  split at e
  · cases e
  · rename_i y hy
    split at e
    · rename_i ho
      cases e
      exact Zhz ok st (st h (Zhe (ok h) (Zcn (x:=y.2) (j:=y.1) hy) ho))
    · cases e
theorem Zj5 (hd:∀ {B} d,P B→P { B with day:=d }) {B:Bk} {w:AV} {r:Bk×List Str} (h:P B) (e:Zh6 B w = .ok r):P r.1:=by
  unfold Zh6 at e
  split at e
  · cases e;exact Zhz ok st (Zfp ok st (hd _ h) _)
  · cases e
end
section
variable {P:Bk→Prop} (ok:∀ {B},P B→BkOK B) (st:∀ {B B' j x},P B→Zor B B' j x .dn→P B')
include ok st
theorem Zey:∀ {g:List Str} {B:Bk},P B→g.Nodup→(∀ k∈g,∃ e:Nat×Pc,pAt B.pacts k=some e∧Zet e.2=true)→P (Zdf g B)
  | [],_,h,_,_=>h
  | k :: g,B,h,nd,hf=>by
    obtain ⟨⟨j,x⟩,h1,h2⟩:=hf k (.head _)
    obtain ⟨n1,n2⟩:=List.nodup_cons.mp nd
    have hg:=Zco h1
    unfold Zdf
    rw [h1]
    refine Zey (st h (Zo2 (ok h) hg.1 h2)) n2 fun k' hk'=>?_
    obtain ⟨⟨m,y⟩,h3,h4⟩:=hf k' (.tail _ hk')
    refine ⟨(m,y),Zv9 hg.1 rfl h3 fun q=>n1 ?_,h4⟩
    have hy:=Zco h3
    rw [q,hg.1] at hy
    rw [← hg.2,Option.some.inj hy.1,hy.2];exact hk'
end
theorem Ziu {ps:List Pc} (nd:(ps.map (·.name)).Nodup) {g:List Str} (hs:g.Sublist (Zc3 ps)):g.Nodup∧∀ k∈g,∃ e:Nat×Pc,pAt ps k=some e∧Zet e.2=true:=by
  refine ⟨(hs.trans (List.filter_sublist.map _)).nodup nd,fun k hk=>?_⟩
  obtain ⟨x,hx,rfl⟩:=List.mem_map.mp (hs.subset hk)
  obtain ⟨hx,hf⟩:=List.mem_filter.mp hx
  obtain ⟨j,hj,e⟩:=List.mem_iff_getElem.mp hx
  exact ⟨(j,x),Zdj nd (by rw [List.getElem?_eq_getElem hj,e]),hf⟩
end Mine
end
section
open PySem PySem.W PyProof.Rows PySem.Spec PySem.SeqAt PySem.Calls
namespace Mine
structure PcOK (pur:List Str) (x:Pc):Prop where
  pk:(x.parts.map (·.1)).Nodup
  pm:∀ e∈x.parts,e.1∈pur∧1≤e.2
  gm:∀ e∈x.gains,e.1∈pur∧1≤e.2
  eq:sumL x.parts=sumL x.gains
  ins:∀ k∈x.inside,k∈x.parts.map (·.1)
  ind:x.inside.Nodup
  ln:x.parts.length≤8∧x.gains.length≤8∧x.needs.length≤8
  nm:isNm x.name=true
structure Inv (pur:List Str) (rs:List (Str×List (Str×Int))) (B:Bk) (tot:Int):Prop where
  nd:pur.Nodup
  pl:pur.length≤100
  fk:B.free.map (·.1)=pur
  ak:B.aside.map (·.1)=pur
  pc:∀ x∈B.pacts,PcOK pur x
  nm:(B.pacts.map (·.name)).Nodup
  kp:B.pacts.map (fun x=>(x.name,x.parts))=rs
  len:B.pacts.length≤100
theorem Zuc {l:List (Str×Int)} {s:Str} (nd:(l.map (·.1)).Nodup):vl l s=sAt l s:=by
  induction l with
  | nil=>rfl
  | cons e l ih =>
    obtain ⟨h1,h2⟩:=List.nodup_cons.mp nd
    (rw [Zmw];dsimp only [Zgt])
    by_cases q:e.1=s
    · rw [if_pos q,if_pos q,Zuj (by rw [← q];exact h1),Int.add_zero]
    · rw [if_neg q,if_neg q,Int.zero_add];exact ih h2
section
variable {pur:List Str} {rs:List (Str×List (Str×Int))} {B B':Bk} {tot:Int} {j:Nat} {x x':Pc}
theorem Zdr {l:List (Str×Int)} (h:l.map (·.1)=pur) {k:Str}:hs l k=true ↔ k∈pur:=by rw [Zqx,h,decide_eq_true_eq]
theorem PcOK.hm (p:PcOK pur x):∀ e∈held x,e.1∈pur∧1≤e.2:=fun e he=>p.pm e (List.mem_filter.mp he).1
theorem PcOK.full (p:PcOK pur x) (h:Zet x=true):held x=x.parts:=by
  have hl:x.inside.length=x.parts.length:=beq_iff_eq.mp (Bool.and_eq_true _ _ ▸ h:_∧_).2
  refine List.filter_eq_self.mpr fun e he=>decide_eq_true ?_
  exact Zyt p.ind p.ins (by rw [List.length_map,hl];exact Nat.le_refl _) (List.mem_map.mpr ⟨e,he,rfl⟩)
theorem Inv.at (I:Inv pur rs B tot) (hj:B.pacts[j]? = some x):PcOK pur x:=I.pc x (List.mem_of_getElem? hj)
theorem Inv.ok (I:Inv pur rs B tot):BkOK B:=by
  have l1:B.free.length=pur.length:=by rw [← I.fk,List.length_map]
  have l2:B.aside.length=pur.length:=by rw [← I.ak,List.length_map]
  refine ⟨⟨by rw [l1];exact Nat.le_trans I.pl (by decide),by rw [l2];exact Nat.le_trans I.pl (by decide)⟩,fun k hk=>(Zdr I.ak).mpr ((Zdr I.fk).mp hk),I.len,fun j x hx k hk=>?_,fun j x hx=>?_,fun j x hx e he=>?_⟩
  · exact (Zdr rfl).mpr ((I.at hx).ins k hk)
  · have p:=I.at hx
    have l8:(8:Nat)≤100:=by decide
    refine ⟨?_,Nat.le_trans p.ln.1 l8,Nat.le_trans p.ln.2.1 l8,Nat.le_trans p.ln.2.2 l8⟩
    have:=Zux p.ind p.ins
    rw [List.length_map] at this
    exact Nat.le_trans this (Nat.le_trans p.ln.1 l8)
  · refine (Zdr I.fk).mpr ?_
    rcases he with he | he
    · exact ((I.at hx).pm e he).1
    · exact ((I.at hx).gm e he).1
theorem Zs7 {α β:Type} {f:α→β} {l:List α} {j:Nat} {x y:α} (h:l[j]? = some x) (e:f y=f x):(l.set j y).map f=l.map f:=by
  induction l generalizing j with
  | nil=>rfl
  | cons a l ih =>
    cases j with
    | zero=>cases h;rw [List.set_cons_zero,List.map_cons,e];rfl
    | succ j=>rw [List.set_cons_succ,List.map_cons,List.map_cons,ih h]
theorem Inv.turn {tot':Int} (I:Inv pur rs B tot) (hj:B.pacts[j]? = some x) (p':PcOK pur x') (hn:(x'.name,x'.parts)=(x.name,x.parts)) (ps:B'.pacts=B.pacts.set j x') (f:B'.free.map (·.1)=B.free.map (·.1)) (a:B'.aside.map (·.1)=B.aside.map (·.1)):Inv pur rs B' tot':=by
  refine ⟨I.nd,I.pl,f.trans I.fk,a.trans I.ak,fun y hy=>?_,by rw [ps,Zhs hj (Prod.mk.inj hn).1];exact I.nm,by rw [ps,Zs7 hj hn];exact I.kp,by rw [ps,List.length_set];exact I.len⟩
  rw [ps] at hy
  rcases List.mem_or_eq_of_mem_set hy with h | h
  · exact I.pc y h
  · rw [h];exact p'
theorem Inv.step {st:Sta} (I:Inv pur rs B tot) (h:Zor B B' j x st):Inv pur rs B' tot :=
  have p:=I.at h.at_
  I.turn h.at_ (x':=x.end st) ⟨p.pk,p.pm,p.gm,p.eq,(fun k hk=>by cases hk),List.nodup_nil,p.ln,p.nm⟩ rfl h.ps h.f.k h.a.k
theorem Inv.day (I:Inv pur rs B tot) (d:Int):Inv pur rs { B with day:=d } tot:=⟨I.nd,I.pl,I.fk,I.ak,I.pc,I.nm,I.kp,I.len⟩
theorem Inv.off {w:AV} {r:Bk×List Str} (I:Inv pur rs B tot) (h:offQ B w = .ok r):Inv pur rs r.1 tot:=Zmp (P:=fun B=>Inv pur rs B tot) (fun I=>I.ok) (fun I h=>I.step h) I h
theorem Inv.pass {w:AV} {r:Bk×List Str} (I:Inv pur rs B tot) (h:Zh6 B w = .ok r):Inv pur rs r.1 tot:=Zj5 (P:=fun B=>Inv pur rs B tot) (fun I=>I.ok) (fun I h=>I.step h) (fun d I=>I.day d) I h
theorem Inv.settle {g:List Str} (I:Inv pur rs B tot) (h:g.Sublist (Zc3 B.pacts)):Inv pur rs (Zdf g B) tot :=
  have:=Ziu I.nm h
  Zey (P:=fun B=>Inv pur rs B tot) (fun I=>I.ok) (fun I h=>I.step h) I this.1 this.2
theorem Inv.put (I:Inv pur rs B tot) {v a:AV} (h:putQ B v a = .ok B'):Inv pur rs B' (tot + Zfq a):=by
  obtain ⟨hp,h⟩:=Zc4 h
  cases (Zc4 h).2
  exact ⟨I.nd,I.pl,(Ze4 (Zbl hp).2).trans I.fk,I.ak,I.pc,I.nm,I.kp,I.len⟩
theorem Inv.take (I:Inv pur rs B tot) {v a:AV} (h:Zjv B v a = .ok B'):Inv pur rs B' (tot + (0 - Zfq a)):=by
  obtain ⟨hp,h⟩:=Zc4 h
  cases (Zht (Zc4 h).2).2
  exact ⟨I.nd,I.pl,(Ze4 (Zbl hp).2).trans I.fk,I.ak,I.pc,I.nm,I.kp,I.len⟩
inductive Zz3 (B:Bk) (k nm:Str) (B':Bk):Prop
  | mk (j:Nat) (x:Pc) (hx:Zch B (.str nm)=some (j,x)) (hk:hs B.free k=true) (hp:hs x.parts k=true) (hin:k ∉ x.inside) (h:B' = { B with pacts:=B.pacts.set j { x with inside:=x.inside ++ [k] },free:=pt B.free k (vl B.free k - vl x.parts k),aside:=pt B.aside k (vl B.aside k + vl x.parts k) })
theorem Znf {k nm:Str} (h:Zfv B (.str k) (.str nm) = .ok B'):Zz3 B k nm B':=by
  obtain ⟨hp,h⟩:=Zc4 h
  cases hx:Zch B (.str nm) with
  | none=>rw [hx] at h;cases h
  | some jx =>
  rw [hx] at h
  replace h:=(Zc4 h).2
  cases hi:lk jx.2.parts k with
  | none=>rw [show lk jx.2.parts (Zbi (.str k))=none from hi] at h;cases h
  | some i =>
  rw [show lk jx.2.parts (Zbi (.str k))=some i from hi] at h
  obtain ⟨hin,h⟩:=Zht h
  cases (Zht h).2
  have hv:vl jx.2.parts k=i:=by unfold vl;rw [hi];rfl
  refine ⟨jx.1,jx.2,hx,(Zbl hp).2,by unfold hs;rw [hi];rfl,hin,?_⟩
  rw [hv];rfl
inductive Z08 (B:Bk) (k nm:Str) (B':Bk):Prop
  | mk (j:Nat) (x:Pc) (hx:Zch B (.str nm)=some (j,x)) (hk:hs B.free k=true) (hin:k∈x.inside) (h:B'=Zh9 { B with pacts:=B.pacts.set j { x with inside:=x.inside.filter (·≠k) } } k (vl x.parts k))
theorem Zrd {k nm:Str} (h:Zjo B (.str k) (.str nm) = .ok B'):Z08 B k nm B':=by
  obtain ⟨hp,h⟩:=Zc4 h
  cases hx:Zch B (.str nm) with
  | none=>rw [hx] at h;cases h
  | some jx =>
  rw [hx] at h
  obtain ⟨hin,h⟩:=Zc4 (Zc4 h).2
  cases h
  exact ⟨jx.1,jx.2,hx,(Zbl hp).2,hin,rfl⟩
theorem Inv.aside (I:Inv pur rs B tot) {k nm:Str} (h:Zfv B (.str k) (.str nm) = .ok B'):Inv pur rs B' tot:=by
  obtain ⟨j,x,hx,hk,hp,hin,rfl⟩:=Znf h
  have hj:=Zcn hx
  have p:=I.at hj
  refine I.turn (x':={ x with inside:=x.inside ++ [k] }) hj ⟨p.pk,p.pm,p.gm,p.eq,fun s hs=>?_,?_,p.ln,p.nm⟩ rfl rfl (Ze4 hk) (Ze4 ((Zdr I.ak).mpr ((Zdr I.fk).mp hk)))
  · rcases List.mem_append.mp hs with hs | hs
    · exact p.ins s hs
    · rw [List.mem_singleton.mp hs];exact (Zdr rfl).mp hp
  · refine List.nodup_append.mpr ⟨p.ind,List.nodup_cons.mpr ⟨List.not_mem_nil,List.nodup_nil⟩,fun a ha b hb=>?_⟩
    rw [List.mem_singleton.mp hb];exact fun e=>hin (e ▸ ha)
theorem Inv.draw (I:Inv pur rs B tot) {k nm:Str} (h:Zjo B (.str k) (.str nm) = .ok B'):Inv pur rs B' tot:=by
  obtain ⟨j,x,hx,hk,hin,rfl⟩:=Zrd h
  have hj:=Zcn hx
  have p:=I.at hj
  exact I.turn (x':={ x with inside:=x.inside.filter (·≠k) }) hj ⟨p.pk,p.pm,p.gm,p.eq,fun s hs=>p.ins s (List.mem_filter.mp hs).1,p.ind.sublist List.filter_sublist,p.ln,p.nm⟩ rfl rfl (Ze4 hk) (Ze4 ((Zdr I.ak).mpr ((Zdr I.fk).mp hk)))
theorem Inv.open (I:Inv pur rs B tot) {k:Str} (hp:B.pacts=[]) (hl:pur.length < 100) (hk:k ∉ pur):Inv (pur ++ [k]) rs { B with free:=pt B.free k 0,aside:=pt B.aside k 0 } tot:=by
  have e:∀ {l:List (Str×Int)},l.map (·.1)=pur→(pt l k 0).map (·.1)=pur ++ [k]:=fun {l} h=>by
    rw [show pt l k 0=l ++ [(k,0)] from if_neg fun z=>hk ((Zdr h).mp z),List.map_append,h];rfl
  refine ⟨List.nodup_append.mpr ⟨I.nd,List.nodup_cons.mpr ⟨List.not_mem_nil,List.nodup_nil⟩,fun a ha b hb q=>?_⟩,by rw [List.length_append];exact hl,e I.fk,e I.ak,?_,I.nm,I.kp,I.len⟩
  · rw [List.mem_singleton.mp hb] at q
    exact hk (q ▸ ha)
  · show ∀ x∈B.pacts,_
    rw [hp];exact fun x hx=>by cases hx
theorem inv0:Inv [] [] ⟨0,[],[],[]⟩ 0:=⟨List.nodup_nil,Nat.zero_le _,rfl,rfl,(fun x hx=>by cases hx),List.nodup_nil,rfl,Nat.zero_le _⟩
theorem Inv.told {x:Pc} (I:Inv pur rs B tot) (p:PcOK pur x) (hn:x.name ∉ B.pacts.map (·.name)) (hl:B.pacts.length < 100):Inv pur (rs ++ [(x.name,x.parts)]) { B with pacts:=B.pacts ++ [x] } tot:=by
  refine ⟨I.nd,I.pl,I.fk,I.ak,fun y hy=>?_,?_,?_,?_⟩
  · rcases List.mem_append.mp hy with h | h
    · exact I.pc y h
    · rw [List.mem_singleton.mp h];exact p
  · show ((B.pacts ++ [x]).map (·.name)).Nodup
    rw [List.map_append]
    exact List.nodup_append.mpr ⟨I.nm,List.nodup_cons.mpr ⟨List.not_mem_nil,List.nodup_nil⟩,fun a ha b hb e=>hn (by rw [e,List.mem_singleton.mp hb] at ha;exact ha)⟩
  · show (B.pacts ++ [x]).map _=_
    rw [List.map_append,I.kp];rfl
  · show (B.pacts ++ [x]).length≤100
    rw [List.length_append];exact hl
end
end Mine
end
section
open PySem PySem.W PyProof.Rows PySem.Spec PySem.SeqAt PySem.Calls
namespace Mine
theorem Znj {QN:VV→Zaa→Prop} {stp:AV→(VV→Zaa→Prop)→VV→Zaa→Prop} {z:Addr} {V:VV} {H:Zaa} {m:Int} (hz:H z=some (.range 0 m)) (J:Nat→VV→Zaa→Prop) (h0:J 0 V H)
    (hs:∀ I:Nat→VV→Zaa→Prop,(∀ k V' H',J k V' H'→I k V' H')→∀ k V' H',J k V' H'→H' z=some (.range 0 m)∧(k=m.toNat→QN V' H')∧(k < m.toNat→stp (.int k) (I (k + 1)) V' H')):WFor QN stp (.ref z) V H:=by
  refine Zd0 (xs:=(List.range (m - 0).toNat).map fun (k:Nat)=>AV.int (0 + k)) (by simp only [Zas,hz]) J h0 fun I hI k V' H' hJ=>?_
  have t7156:=hs I hI k V' H' hJ
  have h1:=t7156.1
  have h2:=t7156.2.1
  have h3:=t7156.2.2
  have hl:((List.range (m - 0).toNat).map fun (k:Nat)=>AV.int (0 + k)).length=m.toNat:=by rw [List.length_map,List.length_range,Int.sub_zero]
  refine ⟨h1.trans hz.symm,fun e=>h2 (e.trans hl),fun x hx=>?_⟩
  rw [List.getElem?_map,Option.map_eq_some_iff] at hx
  obtain ⟨j,hj,rfl⟩:=hx
  have t7158:=List.getElem?_eq_some_iff.mp hj
  have hj1:=t7158.1
  have hj2:=t7158.2
  rw [List.getElem_range] at hj2
  rw [List.length_range,Int.sub_zero] at hj1
  rw [← hj2,Int.zero_add]
  exact h3 hj1
set_option tactic.hygienic true in
theorem Zlm {md:Bool} {Q:AV→Zaa→Prop} {H:Zaa} {m:Int} (h0:0≤m) (h1:m≤100000) (q:∀ z H',H z=none→Ext H H'→H' z=some (.range 0 m)→Q (.ref z) H'):Zdz md .range [.int m] Q H:=by
  rw [Zho]
  exact ⟨⟨by lia,by exact Int.lt_of_le_of_lt (by assumption) (by decide)⟩,fun z hz=>q z _ hz (Ext.refl.new hz) Zad⟩
noncomputable def P2 (l:List (Str×Int)):List (AV×AV):=l.map fun e=>(.str e.1,.int e.2)
theorem Zek {l:List (Str×Int)}:(P2 l).length=l.length:=List.length_map _
theorem Zhl {H:Zaa} {t:Addr} {v w:AV} (ht:H t=some (.tuple [v,w])) (kv:Kv v) (kw:Kv w):∀ {ts:List Addr} {l:List (AV×AV)},pairsH H ts l→pairsH H (ts ++ [t]) (l ++ [(v,w)])
  | [],[],_=>⟨⟨rfl,ht,kv,kw⟩,trivial⟩
  | _ :: _,_ :: _,h=>⟨h.1,Zhl ht kv kw h.2⟩
  | [],_ :: _,h=>h.elim
  | _ :: _,[],h=>h.elim
theorem pairsH.keep {H H':Zaa} (k:∀ a v,H a=some (.tuple v)→H' a=some (.tuple v)):∀ {ts:List Addr} {l:List (AV×AV)},pairsH H ts l→pairsH H' ts l
  | [],[],_=>trivial
  | _ :: _,_ :: _,h=>⟨⟨rfl,k _ _ h.1.2.1,h.1.2.2⟩,pairsH.keep k h.2⟩
  | [],_ :: _,h=>h.elim
  | _ :: _,[],h=>h.elim
inductive PL (H:Zaa) (a:Addr) (l:List (Str×Int)):Prop
  | mk (ts:List Addr) (h:H a=some (.list (ts.map .ref))) (p:pairsH H ts (P2 l))
theorem PL.ext {H H':Zaa} {a:Addr} {l:List (Str×Int)} (p:PL H a l) (e:Ext H H'):PL H' a l:=let ⟨ts,h,p⟩:=p;⟨ts,e _ _ h,p.ext e⟩
theorem PL.kb {H H':Zaa} {a b:Addr} {l:List (Str×Int)} {B:Bk} (p:PL H a l) (hb:H b=some (.book B)) (e:Kb b H H'):PL H' a l :=
  have ne:∀ {y x},H y=some x→x.isB=false→y≠b:=fun h hx q=>by rw [q,hb] at h;cases h;cases hx
  let ⟨ts,h,p⟩:=p
  ⟨ts,e _ _ (ne h rfl) h,p.keep fun a v h=>e _ _ (ne h rfl) h⟩
inductive RowAt (H:Zaa) (t:Addr) (nm:Str) (ps:List (Str×Int)):Prop
  | mk (pl gl nl:Addr) (gs:List (Str×Int)) (ns:List Str) (last:Int) (ht:H t=some (.tuple [.str nm,.ref pl,.ref gl,.ref nl,.int last])) (hp:PL H pl ps) (hg:PL H gl gs) (hn:H nl=some (.list (txs ns))) (l0:1≤ps.length) (l1:ps.length≤100) (l2:gs.length≤100) (l3:ns.length≤100) (kn:Kv (.str nm)) (kk:∀ k∈ns,Kv (.str k))
theorem RowAt.ext {H H':Zaa} {t:Addr} {nm:Str} {ps:List (Str×Int)} (r:RowAt H t nm ps) (e:Ext H H'):RowAt H' t nm ps :=
  let ⟨pl,gl,nl,gs,ns,last,ht,hp,hg,hn,l0,l1,l2,l3,kn,kk⟩:=r
  ⟨pl,gl,nl,gs,ns,last,e _ _ ht,hp.ext e,hg.ext e,e _ _ hn,l0,l1,l2,l3,kn,kk⟩
theorem RowAt.kb {H H':Zaa} {b t:Addr} {nm:Str} {ps:List (Str×Int)} {B:Bk} (r:RowAt H t nm ps) (hb:H b=some (.book B)) (e:Kb b H H'):RowAt H' t nm ps :=
  have ne:∀ {y x},H y=some x→x.isB=false→y≠b:=fun h hx q=>by rw [q,hb] at h;cases h;cases hx
  let ⟨pl,gl,nl,gs,ns,last,ht,hp,hg,hn,l0,l1,l2,l3,kn,kk⟩:=r
  ⟨pl,gl,nl,gs,ns,last,e _ _ (ne ht rfl) ht,hp.kb hb e,hg.kb hb e,e _ _ (ne hn rfl) hn,l0,l1,l2,l3,kn,kk⟩
theorem PL.ag {H H':Zaa} {a:Addr} {l:List (Str×Int)} (p:PL H a l) (h1:∀ x,H a=some x→H' a=some x) (h2:∀ t v,H t=some (.tuple v)→H' t=some (.tuple v)):PL H' a l:=let ⟨ts,h,p⟩:=p;⟨ts,h1 _ h,p.keep h2⟩
theorem Zo5 {H:Zaa}:∀ {ts:List Addr} {l:List (Str×Int)},pairsH H ts (P2 l)→(ts.map AV.ref).filterMap (snd2 H)=(l.map (·.2)).map AV.int
  | [],[],_=>rfl
  | t :: ts,e :: l,h=>by
    rw [List.map_cons,List.filterMap_cons,Zgr h.1.2.1,List.map_cons,List.map_cons,← Zo5 h.2]
  | [],_ :: _,h=>h.elim
  | _ :: _,[],h=>h.elim
theorem Zxp {g:Gx} {V:VV} {Q:AV→Zaa→Prop} {E:String→Zaa→Prop} {H:Zaa} {i m:Nat} {z:Addr} {l:List (Str×Int)} (hmd:g.md=true) (hm:V.length + 1=m) (hV:V[i]? = some (some (.ref z))) (hz:PL H z l) (hl:l.length≤1000)
    (q:∀ H',Ext H H'→Q (.int (sumL l)) H'):wpX g (.prim .sum [.comp (.var m) 2 true (.var i) none]) V Q E H:=by
  obtain ⟨ts,hz,hu⟩:=hz
  rw [Zak,Zac,Za8,Zae,hV]
  refine ⟨hmd,?_⟩
  refine Zg5 (xs:=ts.map .ref) (by simp only [Zas,hz]) (by rw [List.length_map,Zb9 hu,Zek];exact Nat.le_trans hl (by decide)) (snd2 H) (fun y hy H' hE nx hnx=>?_) fun a H' hE ha=>?_
  · obtain ⟨t,ht,rfl⟩:=List.mem_map.mp hy
    obtain ⟨j,hj,rfl⟩:=List.mem_iff_getElem.mp ht
    obtain ⟨e,he,_,htt,k1,k2⟩:=Zdb hu (List.getElem?_eq_getElem hj)
    have hnx:=hnx H' .refl
    rw [Zgr htt] at hnx
    rw [if_pos rfl]
    show Zb4 2 (.ref _) H' _
    unfold Zb4
    dsimp only
    rw [hE _ _ htt]
    refine ⟨rfl,?_⟩
    rw [Zbj,if_pos rfl,Zae,← hm,List.getElem?_append_right (Nat.le_succ _),show V.length + 1 - V.length=1 by lia]
    exact hnx
  · rw [Zaf,Zhn,hmd,Zad]
    refine ⟨rfl,l.map (·.2),Zo5 hu,?_⟩
    exact q _ (hE.new ha)
end Mine
end
section
open PySem PySem.W PyProof.Rows PySem.Spec PySem.SeqAt PySem.Calls
namespace Mine
noncomputable def errs:List String:=["NoName","NoAmount","Taken","NoPurse","TooLittle","NoRow","Twice","Uneven","Fallen","NoDay","NoPact","NotOpen","NoPart","Already","NotAside"]
noncomputable def Er {α:Type}:Except String α→Prop
  | .ok _=>True
  | .error e=>e∈errs
theorem Zft {α:Type} {p:Prop} [Decidable p] {x y:Except String α} (h:Er x) (h':Er y):Er (if p then x else y):=by
  by_cases q:p
  · rw [if_pos q];exact h
  · rw [if_neg q];exact h'
theorem er_e {α:Type} {e:String} (h:errs.contains e=true):Er (.error e:Except String α):=List.contains_iff_mem.mp h
section
variable {B:Bk} {v w a:AV}
theorem Zx8:Er (putQ B v a):=Zft (Zft trivial (er_e rfl)) (er_e rfl)
theorem Zve:Er (Zjv B v a):=Zft (Zft (Zft (er_e rfl) trivial) (er_e rfl)) (er_e rfl)
theorem Zt6:Er (Zfv B v w):=by
  refine Zft ?_ (er_e rfl)
  cases Zch B w with
  | none=>exact er_e rfl
  | some z =>
    refine Zft ?_ (er_e rfl)
    cases lk z.2.parts (Zbi v) with
    | none=>exact er_e rfl
    | some i=>exact Zft (er_e rfl) (Zft (er_e rfl) trivial)
theorem Zw7:Er (Zjo B v w):=by
  refine Zft ?_ (er_e rfl)
  cases Zch B w with
  | none=>exact er_e rfl
  | some z=>exact Zft (Zft trivial (er_e rfl)) (er_e rfl)
theorem Zyr:Er (offQ B w):=by
  unfold offQ
  cases Zch B w with
  | none=>exact er_e rfl
  | some z=>exact Zft trivial (er_e rfl)
theorem Zv7:Er (Zh6 B w):=Zft trivial (er_e rfl)
end
end Mine
end
section
open PySem PySem.W PyProof.Rows PySem.Spec PySem.SeqAt PySem.Calls
namespace Mine
section
variable {α:Type} {xs:List α}
theorem Zns (a m:Nat) (h:a + m≤xs.length):((List.range m).map fun (k:Nat)=>((a:Int) + 1 * (k:Int)).toNat).filterMap (xs[·]?)=(xs.drop a).take m:=by
  induction m with
  | zero=>rw [List.take_zero];rfl
  | succ m ih =>
    have hlt:a + m < xs.length:=h
    rw [List.range_succ,List.map_append,List.filterMap_append,ih (Nat.le_of_lt hlt),List.take_add_one,List.getElem?_drop]
    congr 1
    show [((a:Int) + 1 * (m:Int)).toNat].filterMap _=_
    rw [show ((a:Int) + 1 * (m:Int)).toNat=a + m by lia,List.filterMap_cons,List.getElem?_eq_getElem hlt];rfl
theorem Zpn {lo hi st:Option Int} {a b:Nat} (hb:sliceBounds lo hi st xs.length=((a:Int),(b:Int),1)) (h:a≤b) (h':b≤xs.length):Zgn xs lo hi st=(xs.drop a).take (b - a):=by
  unfold Zgn
  rw [hb]
  unfold sliceRange
  dsimp only
  rw [if_pos (by decide)]
  by_cases e:a=b
  · rw [if_neg (by lia),e,Nat.sub_self,List.take_zero];rfl
  · rw [if_pos (by lia),show ((b:Int) - a + 1 - 1) / 1=((b - a:Nat):Int) by lia,Int.toNat_natCast]
    exact Zns a (b - a) (by lia)
theorem Zj4 {m:Nat}:Zgn xs none (some (m:Int)) none=xs.take m:=by
  have:=Zpn (xs:=xs) (lo:=none) (hi:=some (m:Int)) (st:=none) (a:=0) (b:=min m xs.length) (by
    unfold sliceBounds
    dsimp only [Option.getD]
    simp only [show ¬ ((m:Int) < 0) from by lia,show ((1:Int) > 0) from by decide,if_true,if_false]
    congr 2;lia) (Nat.zero_le _) (Nat.min_le_right _ _)
  rw [this,List.drop_zero,Nat.sub_zero]
  by_cases h:m≤xs.length
  · rw [Nat.min_eq_left h]
  · rw [Nat.min_eq_right (by lia),List.take_length,List.take_of_length_le (by lia)]
theorem Zpo {m:Nat} (h:m≤xs.length):Zgn xs (some (m:Int)) none none=xs.drop m:=by
  have:=Zpn (xs:=xs) (lo:=some (m:Int)) (hi:=none) (st:=none) (a:=m) (b:=xs.length) (by
    unfold sliceBounds
    dsimp only [Option.getD]
    simp only [show ¬ ((m:Int) < 0) from by lia,show ((1:Int) > 0) from by decide,if_true,if_false]
    congr 1;lia) h (Nat.le_refl _)
  rw [this,List.take_of_length_le (by rw [List.length_drop];exact Nat.le_refl _)]
end
theorem Zhh {Q:AV→Zaa→Prop} {H:Zaa} {a:Addr} {xs:List AV} {lo hi st:Option AV} {l u t:Option Int} (h:H a=some (.list xs)) (hl:Zh7 lo=some l) (hu:Zh7 hi=some u) (ht:Zh7 st=some t) (h0:t≠some 0) (hz:xs.length≤1000)
    (q:∀ z H',Ext H H'→H z=none→H' z=some (.list (Zgn xs l u t))→Q (.ref z) H'):Zg2 (.ref a) lo hi st Q H:=by
  rw [Zui,h]
  exact ⟨l,u,t,hl,hu,ht,h0,Nat.le_trans hz (by decide),fun z hz=>q z _ (Ext.refl.new hz) hz Zad⟩
end Mine
end
section
open PySem PySem.W PyProof.Rows PySem.Spec PySem.SeqAt PySem.Calls
namespace Mine
theorem Zl7 {i:Int} (h0:0≤i) (h1:i < 26):letters.cps.toList.contains (chI i)=true:=by
  have hlt:i.toNat < letters.cps.size:=by rw [Zgh];lia
  have:chI i=letters.cps[i.toNat]:=by simp [chI,hlt]
  rw [this,List.contains_iff_mem]
  exact Array.mem_toList_iff.mpr (Array.getElem_mem hlt)
theorem Zfk (r:Int):∀ j,∀ ch∈(Zdx r j).1,letters.cps.toList.contains ch=true
  | 0=>by intro ch h;cases h
  | j + 1=>by
    intro ch h
    rcases List.mem_append.mp h with h | h
    · exact Zfk r j ch h
    · rw [List.mem_singleton] at h;subst h;exact Zl7 (Za6 (by omega)) (Zbe (by omega))
theorem Zmc {k:Int}:∀ ch∈Zdo k,letters.cps.toList.contains ch=true:=by
  intro ch h
  simp only [Zdo,List.mem_cons,List.not_mem_nil,or_false] at h
  rcases h with rfl | rfl <;> exact Zl7 (Za6 (by omega)) (Zbe (by omega))
set_option tactic.hygienic true in
theorem Zu9 {k cl:Int} (hk:0≤k):isNm (word k cl)=true:=by
  have h1:∀ ch∈Ze8 k cl,letters.cps.toList.contains ch=true:=by
    unfold Ze8
    intro ch h
    split at h
    · dsimp only at h
      split at h
      · rename_i z;rw [List.mem_singleton] at h;subst h;exact Zl7 hk z.2
      · rcases List.mem_append.mp h with h | h
        · exact Zmc ch h
        · exact Zfk _ _ ch h
    · dsimp only at h
      rcases List.mem_append.mp h with h | h
      · rcases List.mem_append.mp h with h | h
        · exact Zfk _ _ ch (List.mem_of_mem_take h)
        · exact Zmc ch h
      · exact Zfk _ _ ch (List.mem_of_mem_drop h)
  have h2:1≤(word k cl).length:=by
    show 1≤(Ze8 k cl).toArray.size
    unfold Ze8
    simp only [List.size_toArray]
    split
    · split <;> simp [Zdo] <;> lia
    · simp [Zdo];lia
  have h3:(word k cl).length≤12:=Zr2
  unfold isNm
  rw [Bool.and_eq_true]
  refine ⟨by simp [h2,h3],List.all_eq_true.mpr fun ch hc=>h1 ch ?_⟩
  simpa [word] using hc
theorem Kv.nm {s:Str} (h:isNm s=true):Kv (.str s):=.str (by
  unfold isNm at h
  rw [Bool.and_eq_true,decide_eq_true_eq] at h
  exact Nat.lt_of_le_of_lt h.1.2 (by decide))
noncomputable def Zea (cl:Int) (m:Nat):List Str:=(List.range m).map fun k=>word (k:Nat) cl
theorem Zot {cl:Int} {m:Nat}:(Zea cl m).length=m:=by unfold Zea;rw [List.length_map,List.length_range]
theorem Zr0 {cl:Int} {m:Nat}:∀ s∈Zea cl m,isNm s=true:=fun s h=>by
  obtain ⟨k,_,rfl⟩:=List.mem_map.mp h
  exact Zu9 (Int.natCast_nonneg k)
theorem Zr1 {cl:Int} {m:Nat} (hm:m≤600):(Zea cl m).Nodup:=by
  unfold Zea
  refine List.pairwise_map.mpr ((List.nodup_range (n:=m)).imp_of_mem fun {a b} ha hb h e=>h ?_)
  have h1:=List.mem_range.mp ha
  have h2:=List.mem_range.mp hb
  have:=Zr3 (Int.natCast_nonneg a) (by lia) (Int.natCast_nonneg b) (by lia) e
  lia
section
variable {c:Cx} {P:Pg} (G:Gd c P) {n:Nat} {md:Bool} {V:VV} {Q:AV→Zaa→Prop} {E:String→Zaa→Prop} {H:Zaa} {sp:Addr} {ns:List Int}
theorem Zxg {a b:Addr} {xs ys:List AV} (ha:H a=some (.list xs)) (hb:H b=some (.list ys)) (hs:xs.length + ys.length≤1000) (q:∀ z,H z=none→Q (.ref z) (up H z (.list (xs ++ ys)))):wbin .Add (.ref a) (.ref b) Q H:=by
  show match H a,H b with | some (.list xs),some (.list ys)=>_ | _,_=>False
  rw [ha,hb]
  exact ⟨Nat.le_trans hs (by decide),q⟩
include G
theorem Zrz {nm:String} {i:Int} {x m:Nat} {e:X} (h1:P.fns.lookup "_law_word" = some (Zmb nm)) (h2:P.fns.lookup "_law_mixed" = some BK.f__law_mixed) (h3:P.fns.lookup "_law_cell_at" = some BK.f__law_cell_at) (hi:0≤i) (hm:m≤600) (hx:V.length=x) (h0:V[0]? = some (some (.ref sp))) (hs:H sp=some (.script ns)) (hl:ns.length≤63)
    (he:∀ Q E,Q (.int m) H→wpX ⟨c,n + 2,true⟩ e V Q E H) (q:∀ H' z,Ext H H'→H' z=some (.list (txs (Zea (cell ns i.toNat) m)))→Q (.ref z) H') :
    wpX ⟨c,n + 2,true⟩ (.comp (.call "_law_word" [.var x,.call "_law_cell_at" [.var 0,.lit (.int i)]]) 1 false (.prim .range [e]) none) V Q E H:=by
  rw [Za8]
  refine ⟨rfl,?_⟩
  rw [Zak,Zac]
  refine he _ _ ?_
  rw [Zaf]
  refine Zlm (Int.natCast_nonneg m) (by lia) fun z H1 hz E1 hr=>?_
  have hl0:((List.range ((m:Int) - 0).toNat).map fun (k:Nat)=>AV.int (0 + k)).length=m:=by rw [List.length_map,List.length_range,Int.sub_zero,Int.toNat_natCast]
  refine ⟨(List.range ((m:Int) - 0).toNat).map fun (k:Nat)=>AV.int (0 + k),by simp only [Zas,hr],by rw [hl0];exact Nat.le_trans hm (by decide),fun k acc H'=>Ext H1 H'∧acc=txs (Zea (cell ns i.toNat) k),⟨.refl,rfl⟩,?_⟩
  rintro k acc H' ⟨hE,rfl⟩
  refine ⟨(hE _ _ hr).trans hr.symm,fun hk a ha=>?_,fun y hy=>?_⟩
  · rw [hk,hl0];exact q _ a ((E1.trans hE).new ha) Zad
  rw [List.getElem?_map,Option.map_eq_some_iff] at hy
  obtain ⟨j,hj,rfl⟩:=hy
  obtain ⟨hj1,hj2⟩:=List.getElem?_eq_some_iff.mp hj
  rw [List.getElem_range] at hj2
  rw [List.length_range,Int.sub_zero,Int.toNat_natCast] at hj1
  rw [← hj2,Int.zero_add,if_neg Bool.false_ne_true,Zbj,if_pos rfl,Zam,Zac,Zae,← hx,List.getElem?_append_right (Nat.le_refl _),Nat.sub_self]
  show wpXs _ [_] _ _ _ _
  rw [Zac,Zam,Zac,Zae,List.getElem?_append_left (List.getElem?_eq_some_iff.mp h0).1,h0]
  show CallOK _ _ _ _ [.ref sp,.int i] _ _ _
  refine Zh1 (n:=n + 1) G h3 hi (hE _ _ (E1 _ _ hs)) (by lia) ?_
  rw [Zaf]
  refine Zu8 G h1 h2 (Int.natCast_nonneg k) (by lia) fun H2 E2=>⟨hE.trans E2,?_⟩
  unfold Zea
  rw [List.range_succ,List.map_append]
  exact Zd1
end
end Mine
end
section
open PySem PySem.W PyProof.Rows PySem.Spec PySem.SeqAt PySem.Calls
namespace Mine
theorem Zxw {f:Nat→Int}:sm ([]:List Nat) f=0:=rfl
theorem Zjb {f:Nat→Int} {n:Nat}:sm (List.range (n + 1)) f=sm (List.range n) f + f n:=by
  rw [List.range_succ,Zxx]
  show _ + (f n + 0)=_
  rw [Int.add_zero]
theorem Zsh {f g:Nat→Int} {n j:Nat} {d:Int} (hj:j < n) (h:∀ i,i≠j→g i=f i) (e:g j=f j + d):sm (List.range n) g=sm (List.range n) f + d:=by
  induction n with
  | zero=>cases hj
  | succ n ih =>
    rw [Zjb,Zjb]
    by_cases q:j=n
    · rw [← q,e,Zvm (f:=g) (g:=f) fun i hi=>h i (Nat.ne_of_lt (List.mem_range.mp hi)),Int.add_assoc]
    · rw [ih (Nat.lt_of_le_of_ne (Nat.le_of_lt_succ hj) q),h n fun z=>q z.symm];lia
noncomputable def chg (B B':Bk) (s:Str) (j:Nat):Int:=match B.pacts[j]? with
  | none=>0
  | some x=>match B'.pacts[j]? with
    | none=>0
    | some y=>if y.state=x.state then 0 else sAt (back x y.state) s
theorem Zkz {B B':Bk} {s:Str} {j:Nat} {x y:Pc} (h:B.pacts[j]? = some x) (h':B'.pacts[j]? = some y):chg B B' s j=if y.state=x.state then 0 else sAt (back x y.state) s:=by
  unfold chg;rw [h,h']
structure Ended (w:Sta) (B B':Bk):Prop where
  len:B'.pacts.length=B.pacts.length
  at_:∀ (j:Nat) (x:Pc),B.pacts[j]? = some x→B'.pacts[j]? = some x∨(x.state = .opn∧(w = .fln∨w = .dn∧Zet x=true)∧B'.pacts[j]? = some (x.end w))
  f:∀ s,vl B'.free s=vl B.free s + sm (List.range B.pacts.length) (chg B B' s)
section
variable {w:Sta} {B B' B1 B2:Bk}
theorem Zne (h:B'.pacts=B.pacts) {s:Str} {j:Nat}:chg B B' s j=0:=by
  unfold chg
  rw [h]
  cases B.pacts[j]? with
  | none=>rfl
  | some x=>exact if_pos rfl
theorem Ended.refl (h:B'.pacts=B.pacts) (hf:B'.free=B.free):Ended w B B' :=
  ⟨by rw [h],fun j x hx=>.inl (by rw [h];exact hx),fun s=>by rw [hf,Zfx fun j _=>Zne h,Int.add_zero]⟩
theorem Ended.step {j:Nat} {x:Pc} (h:Ended w B B1) (hw:w≠.opn) (q:Zor B1 B2 j x w):Ended w B B2:=by
  have hj:j < B1.pacts.length:=(List.getElem?_eq_some_iff.mp q.at_).1
  have hj0:j < B.pacts.length:=h.len ▸ hj
  have hx:B.pacts[j]? = some x:=by
    rcases h.at_ j _ (List.getElem?_eq_getElem hj0) with e | ⟨_,_,e⟩
    · rw [List.getElem?_eq_getElem hj0,← e,q.at_]
    · rw [q.at_] at e
      exact absurd (by have:=congrArg Pc.state (Option.some.inj e);rw [q.op] at this;exact this.symm) hw
  have h2:B2.pacts[j]? = some (x.end w):=by rw [q.ps,List.getElem?_set_self hj]
  have ho:∀ i,i≠j→B2.pacts[i]? = B1.pacts[i]?:=fun i hi=>by rw [q.ps,List.getElem?_set_ne hi.symm]
  refine ⟨by rw [q.ps,List.length_set,h.len],fun i y hy=>?_,fun s=>?_⟩
  · by_cases e:i=j
    · rw [e,hx] at hy
      rw [e,← Option.some.inj hy]
      exact .inr ⟨q.op,q.hw,h2⟩
    · rw [ho i e];exact h.at_ i y hy
  · rw [q.f.v,h.f,Int.add_assoc]
    refine congrArg _ (Zsh hj0 (fun i hi=>?_) ?_).symm
    · unfold chg;rw [ho i hi]
    · rw [Zkz hx h2,Zkz hx q.at_,if_pos rfl,if_neg (fun e=>hw (e.trans q.op)),Int.zero_add];rfl
end
end Mine
end
section
open PySem PySem.W PyProof.Rows PySem.Spec PySem.SeqAt PySem.Calls
namespace Mine
section
variable {pur:List Str} {c:Int} {k:Nat}
noncomputable def Zck (pur:List Str) (c:Int) (j:Nat):Str:=pur.getD ((c + j).fmod pur.length).toNat (Str.ofString "")
noncomputable def cyc (pur:List Str) (c:Int) (k:Nat):List Str:=(List.range k).map (Zck pur c)
theorem Znd:cyc pur c (k + 1)=cyc pur c k ++ [Zck pur c k]:=by
  unfold cyc;rw [List.range_succ,List.map_append];rfl
theorem Zpd (h:0 < pur.length) {j:Nat}:((c + j).fmod pur.length).toNat < pur.length:=by
  have h0:=Za6 (x:=c + j) (m:=pur.length) (Int.ofNat_lt.mpr h)
  have h1:=Zbe (x:=c + j) (m:=pur.length) (Int.ofNat_lt.mpr h)
  exact (Int.toNat_lt h0).mpr h1
theorem Zjf (h:0 < pur.length) {j:Nat}:pur[((c + j).fmod pur.length).toNat]? = some (Zck pur c j):=by
  unfold Zck;rw [List.getD_eq_getElem?_getD,List.getElem?_eq_getElem (Zpd h)];rfl
theorem Zgu (h:0 < pur.length) {j:Nat}:Zck pur c j∈pur:=List.mem_of_getElem? (Zjf h)
theorem Zw9 (h:0 < pur.length) {s:Str} (hs:s∈cyc pur c k):s∈pur:=by
  obtain ⟨j,_,rfl⟩:=List.mem_map.mp hs
  exact Zgu h
theorem Zvz {n i j:Nat} (h1:i < j) (h2:j < n):(c + j).fmod n≠(c + i).fmod n:=by
  intro e
  rw [Int.fmod_eq_emod_of_nonneg _ (Int.natCast_nonneg n),Int.fmod_eq_emod_of_nonneg _ (Int.natCast_nonneg n)] at e
  have e:=Int.emod_eq_emod_iff_emod_sub_eq_zero.mp e
  rw [show c + (j:Int) - (c + i)=((j - i:Nat):Int) by lia,← Int.natCast_emod,Nat.mod_eq_of_lt (by lia)] at e
  lia
theorem Zkw (nd:pur.Nodup) (h:k≤pur.length):(cyc pur c k).Nodup:=by
  induction k with
  | zero=>exact List.nodup_nil
  | succ k ih =>
    have h0:0 < pur.length:=Nat.lt_of_lt_of_le (Nat.succ_pos k) h
    rw [Znd,List.nodup_append]
    refine ⟨ih (Nat.le_of_lt h),List.nodup_cons.mpr ⟨List.not_mem_nil,List.nodup_nil⟩,fun a ha b hb e=>?_⟩
    obtain ⟨j,hj,rfl⟩:=List.mem_map.mp ha
    rw [List.mem_singleton.mp hb] at e
    have hj:=List.mem_range.mp hj
    refine Zvz (c:=c) hj h ?_
    have a1:=Zjf (c:=c) (j:=j) h0
    have a2:=Zjf (c:=c) (j:=k) h0
    rw [← e] at a2
    have:=(List.getElem?_inj (Zpd h0) nd).mp (a1.trans a2.symm)
    have b1:=Za6 (x:=c + j) (m:=pur.length) (Int.ofNat_lt.mpr h0)
    have b2:=Za6 (x:=c + k) (m:=pur.length) (Int.ofNat_lt.mpr h0)
    rw [← Int.toNat_of_nonneg b1,← Int.toNat_of_nonneg b2,this]
end
structure PrOK (pur:List Str) (ps:List (Str×Int)):Prop where
  k:(ps.map (·.1)).Nodup
  m:∀ e∈ps,e.1∈pur∧1≤e.2∧e.2≤1000000000000000000000000000000
  l:1≤ps.length∧ps.length≤8
structure Zry (pur:List Str) (own:Str) (ps gs:List (Str×Int)) (ns:List Str) (last:Int):Prop where
  p:PrOK pur ps
  g:PrOK pur gs
  eq:sumL ps=sumL gs
  nn:(own :: ns).Nodup
  nm:∀ s∈ns,isNm s=true
  l3:ns.length≤8
  la:0≤last
section
variable {B:Bk} {pur:List Str}
theorem Zpr {l acc:List (Str×Int)} (h:∀ e∈l,Zbz B (.str e.1)=true∧Zcj (.int e.2)=true) (nd:((acc ++ l).map (·.1)).Nodup):Zgb B (P2 l) acc = .ok (acc ++ l):=by
  induction l generalizing acc with
  | nil=>rw [List.append_nil];rfl
  | cons e l ih =>
    obtain ⟨h1,h2⟩:=h e (.head _)
    show (if Zbz B (.str e.1)=true then (if e.1∈acc.map (·.1) then _ else if Zcj (.int e.2)=true then Zgb B (P2 l) (acc ++ [(e.1,e.2)]) else _) else _)=_
    have e1:acc ++ e :: l=acc ++ [(e.1,e.2)] ++ l:=by rw [List.append_assoc];rfl
    rw [if_pos h1,if_neg,if_pos h2,ih (fun x hx=>h x (.tail _ hx)) (by rw [← e1];exact nd),e1]
    rw [List.map_append,List.nodup_append] at nd
    exact fun hm=>nd.2.2 _ hm e.1 (.head _) rfl
theorem Zj6 {l:List (Str×Int)} (hf:B.free.map (·.1)=pur) (hn:∀ s∈pur,isNm s=true) (p:PrOK pur l):Zeu B (P2 l) = .ok l:=by
  unfold Zeu
  rw [Zek,if_pos p.l]
  refine Zpr (acc:=[]) (fun e he=>⟨?_,decide_eq_true (p.m e he).2⟩) p.k
  show (isNm e.1 && hs B.free e.1)=true
  rw [hn _ (p.m e he).1,(Zdr hf).mpr (p.m e he).1];rfl
theorem Zp6 {l seen:List Str} (h:∀ s∈l,isNm s=true) (hf:∀ s,Zce B s=false) (nd:(seen ++ l).Nodup):Zgf B (txs l) seen = .ok ():=by
  induction l generalizing seen with
  | nil=>rfl
  | cons s l ih =>
    show (if isNm s=true then (if s∈seen then _ else if Zce B s=true then _ else Zgf B (txs l) (seen ++ [s])) else _)=_
    have e1:seen ++ s :: l=seen ++ [s] ++ l:=by rw [List.append_assoc];rfl
    rw [if_pos (h s (.head _)),if_neg,if_neg (by rw [hf];exact Bool.false_ne_true),ih (fun x hx=>h x (.tail _ hx)) (by rw [← e1];exact nd)]
    rw [List.nodup_append] at nd
    exact fun hm=>nd.2.2 _ hm s (.head _) rfl
theorem Zvc {own:Str} {ps gs:List (Str×Int)} {ns:List Str} {last:Int} (r:Zry pur own ps gs ns last) (hf:B.free.map (·.1)=pur) (hn:∀ s∈pur,isNm s=true) (ho:isNm own=true) (ht:pAt B.pacts own=none) (hs:∀ x∈B.pacts,x.state = .opn) (hd:B.day=0) :
    Znl B (.str own) (P2 ps) (P2 gs) (txs ns) (.int last) = .ok { B with pacts:=B.pacts ++ [⟨own,ps,gs,ns,last,.opn,[]⟩] }:=by
  have hfl:∀ s,Zce B s=false:=fun s=>by
    unfold Zce
    cases e:pAt B.pacts s with
    | none=>rfl
    | some w=>show (w.2.state == .fln)=false;rw [hs _ (List.mem_of_getElem? (Zco (j:=w.1) (q:=w.2) e).1)];rfl
  have hnq:Zge B own (txs ns) = .ok ():=by
    unfold Zge
    rw [Zan,if_pos r.l3]
    exact Zp6 r.nm hfl r.nn
  unfold Znl
  rw [if_pos (show Zds (.str own)=true from ho),if_neg (by show ¬ (pAt B.pacts own).isSome=true;rw [ht];exact Bool.false_ne_true),Zj6 hf hn r.p,Zj6 hf hn r.g]
  dsimp only
  rw [if_neg (fun z=>z r.eq)]
  show (match Zge B own (txs ns) with | .error e=>_ | .ok _=>_)=_
  rw [hnq]
  show (if Zg4 (.int last)=true∧¬ last < B.day then _ else _)=_
  rw [if_pos ⟨rfl,by rw [hd];exact Int.not_lt.mpr r.la⟩]
  have e:(txs ns).map Zbi=ns:=by
    unfold txs;rw [List.map_map];exact List.map_id _
  rw [e];rfl
end
end Mine
end
section
open PySem PySem.W PyProof.Rows PySem.Spec PySem.SeqAt PySem.Calls
namespace Mine
noncomputable def kept (k:Str) (x:Pc):List Str:=(Zat x).filter (·≠k)
noncomputable def insN (w:Int) (k nm:Str) (x:Pc):List Str:=if x.name=nm∧w < 7 then (x.parts.filter fun e=>decide (e.1∈kept k x) || (decide (e.1=k) && decide (w < 6))).map (·.1) else Zat x
noncomputable def dK (w a o:Int):Int:=if w=9 then a else if w=10 then 0 - a else if w < 6 then 0 - o else if w=6 then o else 0
structure Eff (w:Int) (k nm:Str) (d:Int) (B B':Bk):Prop where
  len:B'.pacts.length=B.pacts.length
  f:∀ s,vl B'.free s=vl B.free s + (if k=s then d else 0) + sm (List.range B.pacts.length) (chg B B' s)
  p:∀ (j:Nat) (x:Pc),B.pacts[j]? = some x→∃ y,B'.pacts[j]? = some y∧(y.name,y.parts,y.gains)=(x.name,x.parts,x.gains)∧((y.state=x.state∧Zat y=insN w k nm x) ∨
    (y.state≠x.state∧x.state = .opn∧Zat y=[]∧(11≤w∧y.state = .fln∨(w=7∨w=8)∧y.state = .dn∧Zet x=true)))
section
variable {pur:List Str} {rs:List (Str×List (Str×Int))} {B B':Bk} {tot w a:Int} {k nm:Str} {j0:Nat} {x0:Pc}
theorem Ze3 {x:Pc} {s:Str}:s∈Zat x ↔ s∈x.parts.map (·.1)∧s∈x.inside:=by
  unfold Zat
  constructor
  · intro h
    obtain ⟨e,he,rfl⟩:=List.mem_map.mp h
    obtain ⟨h1,h2⟩:=List.mem_filter.mp he
    exact ⟨List.mem_map.mpr ⟨e,h1,rfl⟩,of_decide_eq_true h2⟩
  · rintro ⟨h1,h2⟩
    obtain ⟨e,he,rfl⟩:=List.mem_map.mp h1
    exact List.mem_map.mpr ⟨e,List.mem_filter.mpr ⟨he,decide_eq_true h2⟩,rfl⟩
theorem Zmt {x:Pc} {e:Str×Int} (he:e∈x.parts):e.1∈kept k x ↔ e.1∈x.inside∧e.1≠k:=by
  unfold kept
  rw [List.mem_filter,Ze3,decide_eq_true_eq]
  exact ⟨fun h=>⟨h.1.2,h.2⟩,fun h=>⟨⟨List.mem_map.mpr ⟨e,he,rfl⟩,h.1⟩,h.2⟩⟩
theorem Eff.same (h:B'.pacts=B.pacts) (hw:7≤w) {d:Int} (f:∀ s,vl B'.free s=vl B.free s + if k=s then d else 0):Eff w k nm d B B' :=
  ⟨by rw [h],fun s=>by rw [f,Zfx fun j _=>Zne h,Int.add_zero],fun j x hx=>⟨x,by rw [h];exact hx,rfl,.inl ⟨rfl,by unfold insN;rw [if_neg fun z=>Int.not_lt.mpr hw z.2]⟩⟩⟩
theorem Eff.turn {ins:List Str} {d:Int} (nd:(B.pacts.map (·.name)).Nodup) (hx:pAt B.pacts nm=some (j0,x0)) (h:B'.pacts=B.pacts.set j0 { x0 with inside:=ins }) (hi:Zat { x0 with inside:=ins } = insN w k nm x0) (f:∀ s,vl B'.free s=vl B.free s + if k=s then d else 0):Eff w k nm d B B':=by
  obtain ⟨h1,h2⟩:=Zco hx
  have hlt:=(List.getElem?_eq_some_iff.mp h1).1
  have at0:B'.pacts[j0]? = some { x0 with inside:=ins }:=by rw [h,List.getElem?_set_self hlt]
  have atn:∀ j,j≠j0→B'.pacts[j]? = B.pacts[j]?:=fun j hj=>by rw [h,List.getElem?_set_ne hj.symm]
  refine ⟨by rw [h,List.length_set],fun s=>?_,fun j x hj=>?_⟩
  · rw [f,Zfx fun j _=>?_,Int.add_zero]
    by_cases e:j=j0
    · rw [e,Zkz h1 at0,if_pos rfl]
    · unfold chg
      rw [atn j e]
      cases B.pacts[j]? with
      | none=>rfl
      | some x=>exact if_pos rfl
  · by_cases e:j=j0
    · rw [e,h1] at hj
      rw [e,← Option.some.inj hj]
      exact ⟨_,at0,rfl,.inl ⟨rfl,hi⟩⟩
    · refine ⟨x,by rw [atn j e];exact hj,rfl,.inl ⟨rfl,?_⟩⟩
      unfold insN
      rw [if_neg]
      intro z
      have:=Zdj nd hj
      rw [z.1,hx] at this
      exact e (Prod.mk.inj (Option.some.inj this)).1.symm
theorem Eff.ended {st:Sta} (h:Ended st B B') (hs:st≠.opn) (hw:11≤w∧st = .fln∨(w=7∨w=8)∧st = .dn):Eff w k nm 0 B B':=by
  have w7:¬ w < 7:=by lia
  refine ⟨h.len,fun s=>by rw [ite_self,Int.add_zero];exact h.f s,fun j x hj=>?_⟩
  rcases h.at_ j x hj with e | ⟨h1,h2,e⟩
  · exact ⟨x,e,rfl,.inl ⟨rfl,by unfold insN;rw [if_neg fun z=>w7 z.2]⟩⟩
  · refine ⟨_,e,rfl,.inr ⟨fun z=>hs (z.trans h1),h1,?_,?_⟩⟩
    · show ((x.parts.filter fun e=>decide (e.1∈([]:List Str)))).map _=[]
      rw [List.filter_eq_nil_iff.mpr fun e _ z=>List.not_mem_nil (of_decide_eq_true z)];rfl
    · rcases hw with ⟨a1,a2⟩ | ⟨a1,a2⟩
      · exact .inl ⟨a1,a2⟩
      · rcases h2 with z | z
        · rw [a2] at z;cases z
        · exact .inr ⟨a1,a2,z.2⟩
theorem Zmk {e e':Nat×Pc} (hx:pAt B.pacts nm=some e) (hv:Zch B (.str nm)=some e'):e'=e:=by
  have hv:(if isNm nm=true then pAt B.pacts nm else none)=some e':=hv
  rw [hx] at hv
  by_cases h:isNm nm=true
  · rw [if_pos h] at hv;exact (Option.some.inj hv).symm
  · rw [if_neg h] at hv;cases hv
theorem dK_a {o:Int} (h:w < 6):dK w a o=0 - o:=by unfold dK;rw [if_neg (by lia),if_neg (by lia),if_pos h]
theorem dK_d {o:Int} (h:w=6):dK w a o=o:=by unfold dK;rw [if_neg (by lia),if_neg (by lia),if_neg (by lia),if_pos h]
theorem dK_p {o:Int} (h:w=9):dK w a o=a:=by unfold dK;rw [if_pos h]
theorem dK_t {o:Int} (h:w=10):dK w a o=0 - a:=by unfold dK;rw [if_neg (by lia),if_pos h]
theorem Zrb (I:Inv pur rs B tot) (hx:pAt B.pacts nm=some (j0,x0)) (h:Zfv B (.str k) (.str nm) = .ok B') (hw:w < 6):Eff w k nm (dK w a (sAt x0.parts k)) B B':=by
  obtain ⟨j,x,hv,hk,hp,hin,rfl⟩:=Znf h
  obtain ⟨rfl,rfl⟩:=Prod.mk.inj (Zmk hx hv)
  have hv':=Zuc (s:=k) (I.at (Zcn hv)).pk
  refine Eff.turn (ins:=x.inside ++ [k]) I.nm hx rfl ?_ fun s=>?_
  · unfold insN
    rw [if_pos ⟨(Zco hx).2,by lia⟩]
    refine congrArg (List.map _) (List.filter_congr fun e he=>?_)
    rw [decide_eq_true hw,Bool.and_true,← Bool.decide_or]
    refine decide_eq_decide.mpr ?_
    rw [Zmt (x:=x) he,List.mem_append,List.mem_singleton]
    by_cases q:e.1=k
    · exact ⟨fun _=>.inr q,fun _=>.inr q⟩
    · exact ⟨fun h=>.inl ⟨h.resolve_right q,q⟩,fun h=>.inl (h.resolve_right q).1⟩
  · show vl (pt B.free k (vl B.free k - vl x.parts k)) s=_
    rw [Zow,dK_a hw,hv']
    by_cases q:k=s
    · rw [if_pos q.symm,if_pos q,← q,Int.zero_sub];rfl
    · rw [if_neg fun z=>q z.symm,if_neg q,Int.add_zero]
theorem Zty (I:Inv pur rs B tot) (hx:pAt B.pacts nm=some (j0,x0)) (h:Zjo B (.str k) (.str nm) = .ok B') (hw:w=6):Eff w k nm (dK w a (sAt x0.parts k)) B B':=by
  obtain ⟨j,x,hv,hk,hin,rfl⟩:=Zrd h
  obtain ⟨rfl,rfl⟩:=Prod.mk.inj (Zmk hx hv)
  have hv':=Zuc (s:=k) (I.at (Zcn hv)).pk
  refine Eff.turn (ins:=x.inside.filter (·≠k)) I.nm hx rfl ?_ fun s=>?_
  · unfold insN
    rw [if_pos ⟨(Zco hx).2,by lia⟩]
    refine congrArg (List.map _) (List.filter_congr fun e he=>?_)
    rw [decide_eq_false (show ¬ w < 6 by lia),Bool.and_false,Bool.or_false]
    refine decide_eq_decide.mpr ?_
    rw [Zmt (x:=x) he,List.mem_filter,decide_eq_true_eq]
  · show vl (pt B.free k (vl B.free k + vl x.parts k)) s=_
    rw [Zow,dK_d hw,hv']
    by_cases q:k=s
    · rw [if_pos q.symm,if_pos q,← q]
    · rw [if_neg fun z=>q z.symm,if_neg q,Int.add_zero]
theorem Zw5 {o:Int} (h:putQ B (.str k) (.int a) = .ok B') (hw:w=9):Eff w k nm (dK w a o) B B':=by
  obtain ⟨hp,h⟩:=Zc4 h
  obtain ⟨ha,h⟩:=Zc4 h
  cases h
  have w7:7≤w:=by rw [hw];decide
  apply Eff.same
  · rfl
  · exact w7
  intro s
  show vl (pt B.free k ((lk B.free k).getD 0 + a)) s=_
  rw [Zow,dK_p hw]
  by_cases q:k=s
  · rw [if_pos q.symm,if_pos q,← q];rfl
  · rw [if_neg fun z=>q z.symm,if_neg q,Int.add_zero]
theorem Ztw {o:Int} (h:Zjv B (.str k) (.int a) = .ok B') (hw:w=10):Eff w k nm (dK w a o) B B':=by
  obtain ⟨hp,h⟩:=Zc4 h
  obtain ⟨hl,h⟩:=Zht (Zc4 h).2
  cases h
  have w7:7≤w:=by rw [hw];decide
  apply Eff.same
  · rfl
  · exact w7
  intro s
  show vl (pt B.free k ((lk B.free k).getD 0 - a)) s=_
  rw [Zow,dK_t hw]
  by_cases q:k=s
  · rw [if_pos q.symm,if_pos q,← q];show (lk B.free k).getD 0 - a=(lk B.free k).getD 0 + (0 - a);lia
  · rw [if_neg fun z=>q z.symm,if_neg q,Int.add_zero]
theorem dK_0 {o:Int} (hw:11≤w∨w=7∨w=8):dK w a o=0:=by
  unfold dK;rw [if_neg (by lia),if_neg (by lia),if_neg (by lia),if_neg (by lia)]
theorem Zw6 {o:Int} {v:AV} {r:Bk×List Str} (I:Inv pur rs B tot) (h:offQ B v = .ok r) (hw:11≤w):Eff w k nm (dK w a o) B r.1:=by
  rw [dK_0 (.inl hw)]
  exact .ended (Zmp (P:=fun B'=>Inv pur rs B' tot∧Ended .fln B B') (fun h=>h.1.ok) (fun h q=>⟨h.1.step q,h.2.step (by decide) q⟩) ⟨I,.refl rfl rfl⟩ h).2 (by decide) (.inl ⟨hw,rfl⟩)
theorem Ztx {o:Int} {v:AV} {r:Bk×List Str} (I:Inv pur rs B tot) (h:Zh6 B v = .ok r) (hw:11≤w):Eff w k nm (dK w a o) B r.1:=by
  rw [dK_0 (.inl hw)]
  exact .ended (Zj5 (P:=fun B'=>Inv pur rs B' tot∧Ended .fln B B') (fun h=>h.1.ok) (fun h q=>⟨h.1.step q,h.2.step (by decide) q⟩) (fun d h=>⟨h.1.day d,h.2.len,h.2.at_,h.2.f⟩) ⟨I,.refl rfl rfl⟩ h).2 (by decide) (.inl ⟨hw,rfl⟩)
theorem Zok {o:Int} {g:List Str} (I:Inv pur rs B tot) (h:g.Sublist (Zc3 B.pacts)) (hw:w=7∨w=8):Eff w k nm (dK w a o) B (Zdf g B):=by
  rw [dK_0 (.inr hw)]
  have:=Ziu I.nm h
  exact .ended (Zey (P:=fun B'=>Inv pur rs B' tot∧Ended .dn B B') (fun h=>h.1.ok) (fun h q=>⟨h.1.step q,h.2.step (by decide) q⟩) ⟨I,.refl rfl rfl⟩ this.1 this.2).2 (by decide) (.inr ⟨hw,rfl⟩)
end
end Mine
end
section
open PySem PySem.W PyProof.Rows PySem.Spec PySem.SeqAt PySem.Calls
namespace Mine.L12
noncomputable def Zl5:Fn:=⟨2,["_law_k","_law_cell","_law_letters","_law_told","_law_rest","_law_more","_law_j","_law_at"],[
  .assign (.var 2) (.lit (.str (Str.ofString "abcdefghijklmnopqrstuvwxyz"))),
  .assign (.var 3) (.bin .Add (.sub (.var 2) (.bin .Mod (.bin .FloorDiv (.var 0) (.lit (.int 26))) (.lit (.int 26)))) (.sub (.var 2) (.bin .Mod (.var 0) (.lit (.int 26))))),
  .assign (.var 4) (.call "_law_mixed" [(.var 1),(.lit (.int 0))]),
  .ite (.cmp .Eq (.bin .Mod (.var 1) (.lit (.int 2))) (.lit (.int 1))) [.assign (.var 4) (.call "_law_mixed" [(.var 1),(.var 0)]),
    .ite (.ao true [(.cmp .Eq (.bin .Mod (.var 4) (.lit (.int 12))) (.lit (.int 11))),(.cmp .Lt (.var 0) (.lit (.int 26)))]) [.ret (.sub (.var 2) (.var 0))] []] [],
  .assign (.var 5) (.lit (.str (Str.ofString ""))),
  .for (.var 6) (.prim .range [(.bin .Mod (.bin .FloorDiv (.var 4) (.lit (.int 12))) (.lit (.int 11)))]) [.assign (.var 5) (.bin .Add (.var 5) (.sub (.var 2) (.bin .Mod (.bin .FloorDiv (.var 4) (.lit (.int 300))) (.lit (.int 26))))),
    .assign (.var 4) (.bin .FloorDiv (.var 4) (.lit (.int 26)))],
  .ite (.cmp .Eq (.bin .Mod (.var 1) (.lit (.int 2))) (.lit (.int 1))) [.ret (.bin .Add (.var 3) (.var 5))] [],
  .assign (.var 7) (.bin .Mod (.bin .FloorDiv (.var 1) (.lit (.int 2))) (.bin .Add (.prim .len [(.var 5)]) (.lit (.int 1)))),
  .ret (.bin .Add (.bin .Add (.slice (.var 5) none (some (.var 7)) none) (.var 3)) (.slice (.var 5) (some (.var 7)) none none))]⟩
noncomputable def f__law_pact_by:Fn:=⟨4,["_law_cell","_law_purses","_law_words","_law_own","_law_count","_law_size","_law_parts","_law_j","_law_total","_law_rest","_law_gains","_law_needs","_law_need"],[
  .assign (.var 4) (.prim .len [(.var 1)]),
  .assign (.var 5) (.bin .Add (.lit (.int 1)) (.bin .Mod (.var 0) (.lit (.int 3)))),
  .ite (.cmp .Eq (.bin .Mod (.bin .FloorDiv (.var 0) (.lit (.int 60))) (.lit (.int 5))) (.lit (.int 1))) [.assign (.var 5) (.bin .Add (.lit (.int 3)) (.bin .Mod (.bin .FloorDiv (.var 0) (.lit (.int 300))) (.lit (.int 6))))] [],
  .assign (.var 6) (.list []),
  .for (.var 7) (.prim .range [(.prim .min [(.var 5),(.var 4)])]) [.expr (.bm (.var 6) .append [(.tuple [(.sub (.var 1) (.bin .Mod (.bin .Add (.bin .FloorDiv (.var 0) (.lit (.int 120))) (.var 7)) (.var 4))),(.bin .Add (.bin .Add (.lit (.int 1)) (.bin .Mod (.bin .FloorDiv (.var 0) (.lit (.int 3))) (.lit (.int 20)))) (.bin .Mult (.lit (.int 3)) (.var 7)))])])],
  .assign (.var 8) (.prim .sum [(.comp (.var 14) 2 true (.var 6) none)]),
  .assign (.var 9) (.bin .FloorDiv (.var 0) (.lit (.int 1440))),
  .assign (.var 10) (.list [(.tuple [(.sub (.var 1) (.bin .Mod (.var 9) (.var 4))),(.var 8)])]),
  .for (.var 7) (.prim .range [(.lit (.int 1)),(.prim .min3 [(.bin .Add (.lit (.int 1)) (.bin .Mod (.bin .FloorDiv (.var 9) (.lit (.int 12))) (.lit (.int 8)))),(.var 4),(.var 8)])]) [.assign (.sub (.var 10) (.lit (.int 0))) (.tuple [(.sub (.sub (.var 10) (.lit (.int 0))) (.lit (.int 0))),(.bin .Sub (.sub (.sub (.var 10) (.lit (.int 0))) (.lit (.int 1))) (.lit (.int 1)))]),
    .expr (.bm (.var 10) .append [(.tuple [(.sub (.var 1) (.bin .Mod (.bin .Add (.var 9) (.var 7)) (.var 4))),(.lit (.int 1))])])],
  .assign (.var 9) (.bin .FloorDiv (.var 9) (.lit (.int 96))),
  .assign (.var 11) (.list []),
  .for (.var 7) (.prim .range [(.bin .Mod (.var 9) (.lit (.int 4)))]) [.assign (.var 12) (.sub (.var 2) (.bin .Mod (.bin .FloorDiv (.var 9) (.lit (.int 4))) (.prim .len [(.var 2)]))),
    .assign (.var 9) (.bin .FloorDiv (.var 9) (.lit (.int 3))),
    .ite (.ao true [(.cmp .NotEq (.var 12) (.var 3)),(.cmp .NotIn (.var 12) (.var 11))]) [.expr (.bm (.var 11) .append [(.var 12)])] []],
  .ret (.tuple [(.var 3),(.var 6),(.var 10),(.var 11),(.bin .Mod (.bin .FloorDiv (.var 9) (.lit (.int 500))) (.lit (.int 9)))])]⟩
noncomputable def f__law_done:Fn:=⟨5,["_law_book","_law_way","_law_purse","_law_pact","_law_amount"],[
  .try [.ite (.cmp .Lt (.var 1) (.lit (.int 6))) [.expr (.meth (.var 0) "set_aside" [(.var 2),(.var 3)])] [.ite (.cmp .Eq (.var 1) (.lit (.int 6))) [.expr (.meth (.var 0) "draw_back" [(.var 2),(.var 3)])] [.ite (.cmp .Lt (.var 1) (.lit (.int 9))) [.expr (.meth (.var 0) "settle" [])] [.ite (.cmp .Eq (.var 1) (.lit (.int 9))) [.expr (.meth (.var 0) "put" [(.var 2),(.var 4)])] [.ite (.cmp .Eq (.var 1) (.lit (.int 10))) [.expr (.meth (.var 0) "take" [(.var 2),(.var 4)])] [.ite (.cmp .Eq (.var 1) (.lit (.int 11))) [.expr (.meth (.var 0) "call_off" [(.var 3)])] [.expr (.meth (.var 0) "pass_days" [(.bin .Add (.lit (.int 1)) (.bin .Mod (.var 4) (.lit (.int 2))))])]]]]]]] [.mk "BookError" none [.ret (.lit (.bool false))]],
  .ret (.lit (.bool true))]⟩
noncomputable def f__law_seen:Fn:=⟨4,["_law_book","_law_purses","_law_rows_here","_law_turn","_law_found","_law_way"],[
  .assign (.var 4) (.list [(.list []),(.list []),(.list [])]),
  .for (.var 5) (.sub (.list [(.list [(.lit (.int 0)),(.lit (.int 1)),(.lit (.int 2))]),(.list [(.lit (.int 1)),(.lit (.int 2)),(.lit (.int 0))]),(.list [(.lit (.int 2)),(.lit (.int 0)),(.lit (.int 1))]),(.list [(.lit (.int 2)),(.lit (.int 1)),(.lit (.int 0))]),(.list [(.lit (.int 0)),(.lit (.int 2)),(.lit (.int 1))]),(.list [(.lit (.int 1)),(.lit (.int 0)),(.lit (.int 2))])]) (.bin .Mod (.var 3) (.lit (.int 6)))) [.ite (.cmp .Eq (.var 5) (.lit (.int 0))) [.assign (.sub (.var 4) (.lit (.int 0))) (.comp (.meth (.var 0) "free_of" [(.var 6)]) 1 false (.var 1) none)] [.ite (.cmp .Eq (.var 5) (.lit (.int 1))) [.assign (.sub (.var 4) (.lit (.int 1))) (.comp (.prim .list [(.meth (.var 0) "inside_of" [(.sub (.var 6) (.lit (.int 0)))])]) 1 false (.var 2) none)] [.assign (.sub (.var 4) (.lit (.int 2))) (.comp (.meth (.var 0) "state_of" [(.sub (.var 6) (.lit (.int 0)))]) 1 false (.var 2) none)]]],
  .ret (.tuple [(.sub (.var 4) (.lit (.int 0))),(.sub (.var 4) (.lit (.int 1))),(.sub (.var 4) (.lit (.int 2)))])]⟩
noncomputable def f__law_ended:Fn:=⟨7,["_law_row","_law_inside","_law_way","_law_before","_law_after","_law_free","_law_purses","_law_purse","_law_amount"],[
  .ite (.ao false [(.cmp .NotEq (.var 3) (.lit (.str (Str.ofString "open")))),(.ao true [(.cmp .Eq (.var 4) (.lit (.str (Str.ofString "fallen")))),(.cmp .Lt (.var 2) (.lit (.int 11)))]),(.ao true [(.cmp .Eq (.var 4) (.lit (.str (Str.ofString "done")))),(.cmp .NotIn (.var 2) (.list [(.lit (.int 7)),(.lit (.int 8))]))])]) [.ret (.lit (.bool false))] [],
  .ite (.cmp .Eq (.var 4) (.lit (.str (Str.ofString "fallen")))) [.for (.tup [7,8]) (.sub (.var 0) (.lit (.int 1))) [.ite (.cmp .In (.var 7) (.var 1)) [.assign (.sub (.var 5) (.bm (.var 6) .index [(.var 7)])) (.bin .Add (.sub (.var 5) (.bm (.var 6) .index [(.var 7)])) (.var 8))] []],
    .ret (.lit (.bool true))] [],
  .for (.tup [7,8]) (.sub (.var 0) (.lit (.int 1))) [.ite (.cmp .NotIn (.var 7) (.var 1)) [.ret (.lit (.bool false))] []],
  .for (.tup [7,8]) (.sub (.var 0) (.lit (.int 2))) [.assign (.sub (.var 5) (.bm (.var 6) .index [(.var 7)])) (.bin .Add (.sub (.var 5) (.bm (.var 6) .index [(.var 7)])) (.var 8))],
  .ret (.cmp .Eq (.var 4) (.lit (.str (Str.ofString "done"))))]⟩
noncomputable def f__law_changed:Fn:=⟨7,["_law_seen_here","_law_rows_here","_law_purses","_law_way","_law_purse","_law_pact","_law_amount","_law_free","_law_at","_law_inside","_law_k","_law_own","_law_kept"],[
  .assign (.var 7) (.prim .list [(.sub (.var 0) (.lit (.int 0)))]),
  .assign (.var 8) (.bm (.var 2) .index [(.var 4)]),
  .ite (.ao false [(.cmp .Eq (.var 3) (.lit (.int 9))),(.cmp .Eq (.var 3) (.lit (.int 10)))]) [.assign (.sub (.var 7) (.var 8)) (.bin .Add (.sub (.var 7) (.var 8)) (.sub (.list [(.var 6),(.bin .Sub (.lit (.int 0)) (.var 6))]) (.bin .Sub (.var 3) (.lit (.int 9)))))] [],
  .assign (.var 9) (.comp (.prim .list [(.var 13)]) 1 false (.sub (.var 0) (.lit (.int 1))) none),
  .for (.var 10) (.prim .range [(.prim .len [(.var 1)])]) [.ite (.ao true [(.cmp .Eq (.sub (.sub (.var 1) (.var 10)) (.lit (.int 0))) (.var 5)),(.cmp .Lt (.var 3) (.lit (.int 7)))]) [.assign (.var 11) (.prim .sum [(.comp (.var 14) 2 true (.sub (.sub (.var 1) (.var 10)) (.lit (.int 1))) (some (.cmp .Eq (.var 13) (.var 4))))]),
      .assign (.sub (.var 7) (.var 8)) (.bin .Add (.sub (.var 7) (.var 8)) (.sub (.list [(.bin .Sub (.lit (.int 0)) (.var 11)),(.var 11)]) (.bin .FloorDiv (.var 3) (.lit (.int 6))))),
      .assign (.var 12) (.comp (.var 13) 1 false (.sub (.var 9) (.var 10)) (some (.cmp .NotEq (.var 13) (.var 4)))),
      .assign (.sub (.var 9) (.var 10)) (.comp (.var 13) 2 true (.sub (.sub (.var 1) (.var 10)) (.lit (.int 1))) (some (.ao false [(.cmp .In (.var 13) (.var 12)),(.ao true [(.cmp .Eq (.var 13) (.var 4)),(.cmp .Lt (.var 3) (.lit (.int 6)))])])))] []],
  .ret (.tuple [(.var 7),(.var 9)])]⟩
noncomputable def f__law_rows:Fn:=⟨4,["_law_script","_law_book","_law_names","_law_many","_law_purses","_law_rows_here","_law_k","_law_cell","_law_row"],[
  .assign (.var 4) (.slice (.var 2) none (some (.var 3)) none),
  .assign (.var 5) (.list []),
  .for (.var 6) (.prim .range [(.var 3)]) [.assign (.var 7) (.call "_law_mixed" [(.call "_law_cell_at" [(.var 0),(.bin .Add (.lit (.int 2)) (.var 6))]),(.var 6)]),
    .expr (.meth (.var 1) "open_purse" [(.sub (.var 4) (.var 6))]),
    .ite (.cmp .Gt (.bin .Mod (.var 7) (.lit (.int 5))) (.lit (.int 0))) [.expr (.meth (.var 1) "put" [(.sub (.var 4) (.var 6)),(.bin .Add (.lit (.int 1)) (.bin .Mod (.bin .FloorDiv (.var 7) (.lit (.int 5))) (.lit (.int 90))))])] [],
    .expr (.bm (.var 5) .append [(.call "_law_pact_by" [(.bin .FloorDiv (.var 7) (.lit (.int 450))),(.var 4),(.bin .Add (.slice (.var 2) (some (.var 3)) none none) (.list [(.lit (.str (Str.ofString "never"))),(.lit (.str (Str.ofString "yet")))])),(.sub (.var 2) (.bin .Add (.var 3) (.var 6)))])])],
  .for (.var 8) (.var 5) [.expr (.meth (.var 1) "tell" [(.sub (.var 8) (.lit (.int 0))),(.prim .list [(.sub (.var 8) (.lit (.int 1)))]),(.prim .list [(.sub (.var 8) (.lit (.int 2)))]),(.prim .list [(.sub (.var 8) (.lit (.int 3)))]),(.sub (.var 8) (.lit (.int 4)))])],
  .ret (.var 5)]⟩
noncomputable def f_law:Fn:=⟨1,["_law_script","_law_book","_law_many","_law_names","_law_purses","_law_rows_here","_law_steps","_law_seen_here","_law_k","_law_cell","_law_way","_law_row","_law_purse","_law_amount","_law_good","_law_behind","_law_due","_law_j"],[
  .assign (.var 1) (.new "Book" []),
  .assign (.var 2) (.bin .Add (.lit (.int 2)) (.bin .Mod (.call "_law_cell_at" [(.var 0),(.lit (.int 0))]) (.lit (.int 4)))),
  .ite (.cmp .Eq (.bin .Mod (.bin .FloorDiv (.call "_law_cell_at" [(.var 0),(.lit (.int 0))]) (.lit (.int 4))) (.lit (.int 6))) (.lit (.int 1))) [.assign (.var 2) (.bin .Add (.lit (.int 10)) (.bin .Mod (.bin .FloorDiv (.call "_law_cell_at" [(.var 0),(.lit (.int 0))]) (.lit (.int 24))) (.lit (.int 3))))] [],
  .assign (.var 3) (.comp (.call "_law_word" [(.var 18),(.call "_law_cell_at" [(.var 0),(.lit (.int 1))])]) 1 false (.prim .range [(.bin .Mult (.lit (.int 2)) (.var 2))]) none),
  .assign (.var 4) (.slice (.var 3) none (some (.var 2)) none),
  .assign (.var 5) (.call "_law_rows" [(.var 0),(.var 1),(.var 3),(.var 2)]),
  .assign (.var 6) (.lit (.int 24)),
  .ite (.cmp .Gt (.prim .len [(.var 0)]) (.lit (.int 63))) [.assign (.var 6) (.lit (.int 60))] [],
  .assign (.var 7) (.call "_law_seen" [(.var 1),(.var 4),(.var 5),(.lit (.int 0))]),
  .for (.var 8) (.prim .range [(.prim .min [(.var 6),(.prim .len [(.var 0)])])]) [.assign (.var 9) (.call "_law_mixed" [(.sub (.var 0) (.var 8)),(.bin .Add (.var 8) (.lit (.int 99)))]),
    .assign (.var 10) (.bin .Mod (.var 9) (.lit (.int 13))),
    .assign (.var 11) (.sub (.var 5) (.bin .Mod (.bin .FloorDiv (.var 9) (.lit (.int 13))) (.var 2))),
    .assign (.var 12) (.sub (.var 4) (.bin .Mod (.bin .FloorDiv (.var 9) (.lit (.int 156))) (.var 2))),
    .ite (.cmp .Gt (.bin .Mod (.bin .FloorDiv (.var 9) (.lit (.int 1872))) (.lit (.int 5))) (.lit (.int 0))) [.assign (.var 12) (.sub (.sub (.sub (.var 11) (.lit (.int 1))) (.bin .Mod (.bin .FloorDiv (.var 9) (.lit (.int 156))) (.prim .len [(.sub (.var 11) (.lit (.int 1)))]))) (.lit (.int 0)))] [],
    .assign (.var 13) (.bin .Add (.lit (.int 1)) (.bin .Mod (.bin .FloorDiv (.var 9) (.lit (.int 9360))) (.lit (.int 26)))),
    .assign (.var 14) (.call "_law_done" [(.var 1),(.var 10),(.var 12),(.sub (.var 11) (.lit (.int 0))),(.var 13)]),
    .assign (.var 15) (.call "_law_seen" [(.var 1),(.var 4),(.var 5),(.bin .FloorDiv (.var 9) (.lit (.int 5)))]),
    .ite (.ao true [(.not (.var 14)),(.cmp .NotEq (.var 15) (.var 7))]) [.ret (.lit (.bool false))] [],
    .assign (.var 16) (.tuple [(.prim .list [(.sub (.var 7) (.lit (.int 0)))]),(.comp (.prim .list [(.var 18)]) 1 false (.sub (.var 7) (.lit (.int 1))) none)]),
    .ite (.var 14) [.assign (.var 16) (.call "_law_changed" [(.var 7),(.var 5),(.var 4),(.var 10),(.var 12),(.sub (.var 11) (.lit (.int 0))),(.var 13)])] [],
    .for (.var 17) (.prim .range [(.var 2)]) [.ite (.cmp .NotEq (.sub (.sub (.var 15) (.lit (.int 2))) (.var 17)) (.sub (.sub (.var 7) (.lit (.int 2))) (.var 17))) [.ite (.not (.call "_law_ended" [(.sub (.var 5) (.var 17)),(.sub (.sub (.var 7) (.lit (.int 1))) (.var 17)),(.var 10),(.sub (.sub (.var 7) (.lit (.int 2))) (.var 17)),(.sub (.sub (.var 15) (.lit (.int 2))) (.var 17)),(.sub (.var 16) (.lit (.int 0))),(.var 4)])) [.ret (.lit (.bool false))] [],
        .expr (.bm (.sub (.sub (.var 16) (.lit (.int 1))) (.var 17)) .clear [])] []],
    .ite (.cmp .NotEq (.tuple [(.sub (.var 15) (.lit (.int 0))),(.sub (.var 15) (.lit (.int 1)))]) (.var 16)) [.ret (.lit (.bool false))] [],
    .assign (.var 7) (.var 15)],
  .ret (.lit (.bool true))]⟩
noncomputable def P:Pg where
  fns:=[("are_met",BK.f_are_met),("table_of",BK.f_table_of),("greatest",BK.f_greatest),("is_whole",BK.f_is_whole),("is_name",BK.f_is_name),("name_of",BK.f_name_of),("amount_of",BK.f_amount_of),("_law_cell_at",BK.f__law_cell_at),("_law_mixed",BK.f__law_mixed),("_law_word",Zl5),("_law_pact_by",f__law_pact_by),("_law_done",f__law_done),("_law_seen",f__law_seen),("_law_ended",f__law_ended),("_law_changed",f__law_changed),("_law_rows",f__law_rows),("law",f_law),("Pact.__init__",BK.f_Pact___init__),("Pact.part_of",BK.f_Pact_part_of),("Pact.is_full",BK.f_Pact_is_full),("Book.__init__",BK.f_Book___init__),("Book.need_purse",BK.f_Book_need_purse),("Book.need_pact",BK.f_Book_need_pact),("Book.need_open",BK.f_Book_need_open),("Book.open_purse",BK.f_Book_open_purse),("Book.put",BK.f_Book_put),("Book.take",BK.f_Book_take),("Book.pairs_of",BK.f_Book_pairs_of),("Book.needs_of",BK.f_Book_needs_of),("Book.tell",BK.f_Book_tell),("Book.set_aside",BK.f_Book_set_aside),("Book.given_back",BK.f_Book_given_back),("Book.draw_back",BK.f_Book_draw_back),("Book.fell",BK.f_Book_fell),("Book.first_dragged",BK.f_Book_first_dragged),("Book.dragged",BK.f_Book_dragged),("Book.call_off",BK.f_Book_call_off),("Book.pass_days",BK.f_Book_pass_days),("Book.standing",BK.f_Book_standing),("Book.settle",BK.f_Book_settle),("Book.purses",BK.f_Book_purses),("Book.told",BK.f_Book_told),("Book.free_of",BK.f_Book_free_of),("Book.state_of",BK.f_Book_state_of),("Book.inside_of",BK.f_Book_inside_of),("Book.full",BK.f_Book_full)]
  gfns:=["_wall","are_met","table_of","greatest","is_whole","is_name","name_of","amount_of","_law_cell_at","_law_mixed","_law_word","_law_pact_by","_law_done","_law_seen","_law_ended","_law_changed","_law_rows","law"]
  consts:=[("LETTERS",(.str (Str.ofString "abcdefghijklmnopqrstuvwxyz"))),("MOST_SIGNS",(.int 12)),("MOST_AMOUNT",(.int 1000000000000000000000000000000)),("MOST",(.int 8))]
  excs:=[("BookError",["BookError","ValueError"]),("NoName",["NoName","BookError","ValueError"]),("NoAmount",["NoAmount","BookError","ValueError"]),("Taken",["Taken","BookError","ValueError"]),("NoPurse",["NoPurse","BookError","ValueError"]),("TooLittle",["TooLittle","BookError","ValueError"]),("NoRow",["NoRow","BookError","ValueError"]),("Twice",["Twice","BookError","ValueError"]),("Uneven",["Uneven","BookError","ValueError"]),("Fallen",["Fallen","BookError","ValueError"]),("NoDay",["NoDay","BookError","ValueError"]),("NoPact",["NoPact","BookError","ValueError"]),("NotOpen",["NotOpen","BookError","ValueError"]),("NoPart",["NoPart","BookError","ValueError"]),("Already",["Already","BookError","ValueError"]),("NotAside",["NotAside","BookError","ValueError"])]
  classes:=["Pact","Book"]
  meths:=[("Pact","__init__"),("Pact","part_of"),("Pact","is_full"),("Book","__init__"),("Book","need_purse"),("Book","need_pact"),("Book","need_open"),("Book","open_purse"),("Book","put"),("Book","take"),("Book","pairs_of"),("Book","needs_of"),("Book","tell"),("Book","set_aside"),("Book","given_back"),("Book","draw_back"),("Book","fell"),("Book","first_dragged"),("Book","dragged"),("Book","call_off"),("Book","pass_days"),("Book","standing"),("Book","settle"),("Book","why_not"),("Book","purses"),("Book","told"),("Book","free_of"),("Book","aside_of"),("Book","state_of"),("Book","inside_of"),("Book","full")]
  attrs:=[("Book","aside"),("Book","day"),("Book","free"),("Book","pacts"),("Pact","gains"),("Pact","inside"),("Pact","last"),("Pact","name"),("Pact","needs"),("Pact","parts"),("Pact","state")]
  prims:=["bool","int","isinstance","len","list","min","range","str","sum"]
end Mine.L12
end
section
open PySem PySem.W PyProof.Rows PySem.Spec PySem.SeqAt PySem.Calls
namespace Mine
open L12
inductive Rw (H:Zaa) (t:Addr) (nm:Str) (ps gs:List (Str×Int)) (ns:List Str) (last:Int):Prop
  | mk (pl gl nl:Addr) (ht:H t=some (.tuple [.str nm,.ref pl,.ref gl,.ref nl,.int last])) (hp:PL H pl ps) (hg:PL H gl gs) (hn:H nl=some (.list (txs ns)))
noncomputable def RwF (H H':Zaa) (t:Addr) (nm:Str) (ps gs:List (Str×Int)) (ns:List Str) (last:Int):Prop:=∀ H2:Zaa,(∀ a x,(H a=none∨∃ v,x = .tuple v)→H' a=some x→H2 a=some x)→Rw H2 t nm ps gs ns last
section
variable {H H':Zaa} {t:Addr} {nm:Str} {ps gs:List (Str×Int)} {ns:List Str} {last:Int}
theorem Rw.ext (r:Rw H t nm ps gs ns last) (e:Ext H H'):Rw H' t nm ps gs ns last :=
  let ⟨pl,gl,nl,ht,hp,hg,hn⟩:=r
  ⟨pl,gl,nl,e _ _ ht,hp.ext e,hg.ext e,e _ _ hn⟩
theorem Rw.kb {b:Addr} {B:Bk} (r:Rw H t nm ps gs ns last) (hb:H b=some (.book B)) (e:Kb b H H'):Rw H' t nm ps gs ns last :=
  have ne:∀ {y x},H y=some x→x.isB=false→y≠b:=fun h hx q=>by rw [q,hb] at h;cases h;cases hx
  let ⟨pl,gl,nl,ht,hp,hg,hn⟩:=r
  ⟨pl,gl,nl,e _ _ (ne ht rfl) ht,hp.kb hb e,hg.kb hb e,e _ _ (ne hn rfl) hn⟩
theorem Zjx {Q:AV→Zaa→Prop} {a:Addr} {xs:List AV} {j:Nat} {v:AV} (h:H a=some (.tuple xs)) (hj:xs[j]? = some v) (hl:xs.length≤1000) (q:Q v H):wsub (.ref a) (.int j) Q H:=by
  rw [Zfb,h]
  have hlt:=(List.getElem?_eq_some_iff.mp hj).1
  refine ⟨j,v,?_,by lia,by lia,hj,q⟩
  unfold Zfy
  rw [if_pos (Int.natCast_nonneg j),if_pos (by lia)];rfl
theorem Zex {Q:AV→Zaa→Prop} {a:Addr} {xs:List AV} {j:Nat} {v:AV} (h:H a=some (.list xs)) (hj:xs[j]? = some v) (hl:xs.length≤1000) (q:Q v H):wsub (.ref a) (.int j) Q H:=by
  rw [Zfb,h]
  have hlt:=(List.getElem?_eq_some_iff.mp hj).1
  refine ⟨j,v,?_,by lia,by lia,hj,q⟩
  unfold Zfy
  rw [if_pos (Int.natCast_nonneg j),if_pos (by lia)];rfl
theorem PL.nil {a:Addr} (h:H a=some (.list [])):PL H a []:=⟨[],h,trivial⟩
theorem PL.snoc {z t:Addr} {ps:List (Str×Int)} {k:Str} {i:Int} (p:PL H z ps) (ht:H t=none) (kk:Kv (.str k)) (Q:AV→Zaa→Prop) (hl:ps.length≤1000) (q:∀ H',PL H' z (ps ++ [(k,i)])→(∀ H0,H0 z=none→Ext H0 H→Ext H0 H')→(∀ a x,a≠z→H a=some x→H' a=some x)→Q .none H'):wbm (.ref z) .append [.ref t] Q (up H t (.tuple [.str k,.int i])):=by
  obtain ⟨ts,h,p⟩:=p
  have E1:=Ext.refl.new (o:=.tuple [AV.str k,.int i]) ht
  have htz:t≠z:=(Zc6 h ht).symm
  refine Zc8 (E1 _ _ h) (by rw [List.length_map,Zb9 p,Zek];exact Nat.le_trans hl (by decide)) (q _ ⟨ts ++ [t],?_,?_⟩ (fun H0 h0 e=>(e.trans E1).own h0) fun a x ha hx=>by rw [Zab ha];exact E1 _ _ hx)
  · rw [Zad,List.map_append];rfl
  · show pairsH _ _ ((ps ++ [(k,i)]).map _)
    rw [List.map_append]
    refine Zhl (by rw [Zab htz];exact Zad) kk Kv.int ((p.ext E1).keep fun a v hv=>?_)
    rw [Zab (fun e=>by rw [e,E1 _ _ h] at hv;cases hv)];exact hv
theorem PL.set0 {z t:Addr} {e:Str×Int} {ps:List (Str×Int)} {k:Str} {i:Int} (p:PL H z (e :: ps)) (ht:H t=none) (kk:Kv (.str k)) (Q:Zaa→Prop) (hl:ps.length≤1000) (q:∀ H',PL H' z ((k,i) :: ps)→(∀ H0,H0 z=none→Ext H0 H→Ext H0 H')→(∀ a x,a≠z→H a=some x→H' a=some x)→Q H'):Zjr (.ref z) (.int 0) (.ref t) Q (up H t (.tuple [.str k,.int i])):=by
  obtain ⟨ts,h,p⟩:=p
  have E1:=Ext.refl.new (o:=.tuple [AV.str k,.int i]) ht
  have htz:t≠z:=(Zc6 h ht).symm
  have hl':=Zb9 p
  cases ts with
  | nil=>exact p.elim
  | cons t0 ts =>
    have p2:pairsH H ts (P2 ps):=p.2
    unfold Zjr
    dsimp only
    rw [E1 _ _ h]
    refine ⟨Int.le_refl 0,?_,?_,q _ ⟨t :: ts,?_,?_⟩ (fun H0 h0 e=>(e.trans E1).own h0) fun a x ha hx=>by rw [Zab ha];exact E1 _ _ hx⟩
    · rw [List.length_map,List.length_cons];lia
    · rw [List.length_map,hl',Zek,List.length_cons];exact Nat.lt_of_le_of_lt (Nat.succ_le_succ hl) (by decide)
    · rw [Zad];rfl
    · refine ⟨⟨rfl,by rw [Zab htz];exact Zad,kk,Kv.int⟩,(p2.ext E1).keep fun a v hv=>?_⟩
      rw [Zab (fun e=>by rw [e,E1 _ _ h] at hv;cases hv)];exact hv
end
theorem Zxl {QN:VV→Zaa→Prop} {stp:AV→(VV→Zaa→Prop)→VV→Zaa→Prop} {z:Addr} {V:VV} {H:Zaa} {m:Int} (hz:H z=some (.range 1 m)) (J:Nat→VV→Zaa→Prop) (h0:J 0 V H)
    (hs:∀ I:Nat→VV→Zaa→Prop,(∀ k V' H',J k V' H'→I k V' H')→∀ k V' H',J k V' H'→H' z=some (.range 1 m)∧(k=(m - 1).toNat→QN V' H')∧(k < (m - 1).toNat→stp (.int (1 + k)) (I (k + 1)) V' H')):WFor QN stp (.ref z) V H:=by
  refine Zd0 (xs:=(List.range (m - 1).toNat).map fun (k:Nat)=>AV.int (1 + k)) (by simp only [Zas,hz]) J h0 fun I hI k V' H' hJ=>?_
  obtain ⟨h1,h2,h3⟩:=hs I hI k V' H' hJ
  have hl:((List.range (m - 1).toNat).map fun (k:Nat)=>AV.int (1 + k)).length=(m - 1).toNat:=by rw [List.length_map,List.length_range]
  refine ⟨h1.trans hz.symm,fun e=>h2 (e.trans hl),fun x hx=>?_⟩
  rw [List.getElem?_map,Option.map_eq_some_iff] at hx
  obtain ⟨j,hj,rfl⟩:=hx
  obtain ⟨hj1,hj2⟩:=List.getElem?_eq_some_iff.mp hj
  rw [List.getElem_range] at hj2
  rw [List.length_range] at hj1
  rw [← hj2]
  exact h3 hj1
section
variable {pur:List Str} {c t:Int} {k:Nat}
noncomputable def pl12 (pur:List Str) (cl:Int) (k:Nat):List (Str×Int):=(List.range k).map fun j=>(Zck pur (cl.fdiv 120) j,1 + (cl.fdiv 3).fmod 20 + 3 * (j:Int))
noncomputable def gl12 (pur:List Str) (r t:Int) (k:Nat):List (Str×Int):=(Zck pur r 0,t - k) :: (List.range k).map fun j=>(Zck pur r (j + 1),1)
theorem Zpj:pl12 pur c (k + 1)=pl12 pur c k ++ [(Zck pur (c.fdiv 120) k,1 + (c.fdiv 3).fmod 20 + 3 * (k:Int))]:=by
  unfold pl12;rw [List.range_succ,List.map_append];rfl
theorem Zkl:gl12 pur c t (k + 1)=(Zck pur c 0,t - k - 1) :: (List.range k).map (fun j=>(Zck pur c (j + 1),(1:Int))) ++ [(Zck pur c (k + 1),1)]:=by
  unfold gl12;rw [List.range_succ,List.map_append,show t - ((k + 1:Nat):Int)=t - k - 1 by lia];rfl
theorem Zpk:(pl12 pur c k).map (·.1)=cyc pur (c.fdiv 120) k:=by unfold pl12 cyc;rw [List.map_map];rfl
theorem Zkm:(gl12 pur c t k).map (·.1)=cyc pur c (k + 1):=by
  induction k with
  | zero=>rfl
  | succ k ih =>
    rw [Znd,← ih,Zkl,List.map_append];rfl
theorem Zgw:(pl12 pur c k).length=k:=by unfold pl12;rw [List.length_map,List.length_range]
theorem Zm5:(gl12 pur c t k).length=k + 1:=by unfold gl12;rw [List.length_cons,List.length_map,List.length_range]
theorem Zse {l l':List (Str×Int)}:sumL (l ++ l')=sumL l + sumL l':=by unfold sumL;rw [List.map_append,List.sum_append]
theorem Zto:sumL (gl12 pur c t k)=t:=by
  show (t - k) + sumL ((List.range k).map fun j=>(Zck pur c (j + 1),(1:Int)))=t
  have:sumL ((List.range k).map fun j=>(Zck pur c (j + 1),(1:Int)))=k:=by
    induction k with
    | zero=>rfl
    | succ k ih=>rw [List.range_succ,List.map_append,Zse,ih];rfl
  rw [this];lia
theorem Zuk {e:Str×Int} (h:e∈pl12 pur c k) (hk:k≤8) (h0:0 < pur.length):e.1∈pur∧1≤e.2∧e.2≤100:=by
  obtain ⟨j,hj,rfl⟩:=List.mem_map.mp h
  have hj:=List.mem_range.mp hj
  have b0:=Za6 (x:=c.fdiv 3) (m:=20) (by decide)
  have b1:=Zbe (x:=c.fdiv 3) (m:=20) (by decide)
  exact ⟨Zgu h0,show 1≤1 + (c.fdiv 3).fmod 20 + 3 * (j:Int) by lia,show 1 + (c.fdiv 3).fmod 20 + 3 * (j:Int)≤100 by lia⟩
theorem Zxq {l:List (Str×Int)} (h:∀ e∈l,1≤e.2∧e.2≤100):(l.length:Int)≤sumL l∧sumL l≤100 * (l.length:Int):=by
  induction l with
  | nil=>exact ⟨Int.le_refl 0,Int.le_refl 0⟩
  | cons e l ih =>
    have h1:=h e (.head _)
    have h2:=ih fun x hx=>h x (.tail _ hx)
    show _≤e.2 + sumL l∧e.2 + sumL l≤_
    rw [List.length_cons]
    lia
theorem Zv5 (nd:pur.Nodup) (h0:0 < pur.length) (h1:1≤k) (h8:k≤8) (hk:k≤pur.length):PrOK pur (pl12 pur c k) :=
  ⟨by rw [Zpk];exact Zkw nd hk,fun e he=>have:=Zuk he h8 h0;⟨this.1,this.2.1,Int.le_trans this.2.2 (by decide)⟩,by rw [Zgw];exact ⟨h1,h8⟩⟩
theorem Zw2 (nd:pur.Nodup) (h0:0 < pur.length) (h8:k + 1≤8) (hk:k + 1≤pur.length) (ht:(k:Int) + 1≤t) (ht':t≤1000):PrOK pur (gl12 pur c t k):=by
  refine ⟨by rw [Zkm];exact Zkw nd hk,fun e he=>⟨Zw9 h0 (by rw [← Zkm (t:=t)];exact List.mem_map.mpr ⟨e,he,rfl⟩),?_⟩,by rw [Zm5];exact ⟨Nat.le_add_left 1 k,h8⟩⟩
  rcases List.mem_cons.mp he with rfl | he
  · exact ⟨show 1≤t - k by lia,show t - k≤_ by lia⟩
  · obtain ⟨j,_,rfl⟩:=List.mem_map.mp he
    exact ⟨Int.le_refl 1,show (1:Int)≤1000000000000000000000000000000 by decide⟩
end
end Mine
end
section
open PySem PySem.W PyProof.Rows PySem.Spec PySem.SeqAt PySem.Calls
namespace Mine
open L12
inductive Na (H:Zaa) (v0 v1 v3 v4 v5 v6 v8 v10:Option AV) (wd zn zr:Addr) (m:Int) (own:Str) (wds:List Str) (k:Nat) (V':VV) (H':Zaa):Prop
  | mk (p7 p12:Option AV) (r:Int) (ns:List Str) (hV:V'=[v0,v1,some (.ref wd),v3,v4,v5,v6,p7,v8,some (.int r),v10,some (.ref zn),p12]) (hE:Ext H H') (hz:H' zn=some (.list (txs ns))) (hl:ns.length≤k) (nn:(own :: ns).Nodup) (kk:∀ s∈ns,s∈wds) (hr:H' zr=some (.range 0 m))
section
variable {c:Cx} (G:Gd c L12.P) {n:Nat} {Q:AV→Zaa→Prop} {E:String→Zaa→Prop} {H:Zaa}
set_option tactic.hygienic true in
theorem Zwe {g:Gx} {QN:VV→Zaa→Prop} {EE:String→VV→Zaa→Prop} {v0 v1 v4 v5 v7 v8:Option AV} {r:Int} {z zg wd:Addr} {own:Str} {wds:List Str} (hmd:g.md=true) (hwd:H wd=some (.list (txs wds))) (w0:0 < wds.length) (w1:wds.length≤100)
    (q:∀ H' t zn ns last,Ext H H'→H zn=none→H' zn=some (.list (txs ns))→H' t=some (.tuple [.str own,.ref z,.ref zg,.ref zn,.int last])→(own :: ns).Nodup→(∀ s∈ns,s∈wds)→ns.length≤8→0≤last→Q (.ref t) H') :
    wpSs g (L12.f__law_pact_by.body.drop 9) QN Q EE [v0,v1,some (.ref wd),some (.str own),v4,v5,some (.ref z),v7,v8,some (.int r),some (.ref zg),none,none] H:=by
  refine w_st fun K nx=>?_
  dsimp only [Zaj,tv,List.length_cons,List.length_nil,Nat.reduceAdd,List.set_cons_succ,List.set_cons_zero,Zau,Zah,Zae,List.getElem?_cons_succ,v_0,Zb1,ne_eq]
  refine ⟨by decide,by decide,nx _ _ ?_⟩
  generalize r.fdiv 96=r
  refine w_st fun K nx=>?_
  dsimp only [Zaj,tv,List.length_cons,List.length_nil,Nat.reduceAdd,List.set_cons_succ,List.set_cons_zero,Zaw,Zaf]
  intro zn hzn
  refine ⟨by decide,nx _ _ ?_⟩
  have E6:=Ext.refl.new (o:=.list (txs [])) hzn
  have hn6:up H zn (.list (txs [])) zn=some (.list (txs [])):=Zad
  rw [show (AObj.list []) = .list (txs []) from rfl]
  generalize up H zn (.list (txs []))=H6 at E6 hn6
  refine w_st fun K nx=>?_
  dsimp only [Zbd]
  refine ⟨hmd,?_⟩
  dsimp only [Zak,wtg,Zac,Zaf,Zau,Zah,Zae,List.getElem?_cons_succ,v_0,Zby,ne_eq]
  refine ⟨by decide,?_⟩
  have r0:=Za6 (x:=r) (m:=4) (by decide)
  have r4:=Zbe (x:=r) (m:=4) (by decide)
  refine Zlm r0 (by lia) fun zr2 H7 hzr2 E7 hr2=>?_
  refine Znj hr2 (Na H _ _ _ _ _ _ _ _ wd zn zr2 (r.fmod 4) own wds) ⟨_,_,r,[],rfl,E6.trans E7,E7 _ _ hn6,Nat.le_refl _,List.nodup_cons.mpr ⟨List.not_mem_nil,List.nodup_nil⟩,(fun s hs=>by cases hs),hr2⟩ ?_
  rintro I hI k V' H' ⟨p7',p12,r',ns,rfl,hE',hzn',hl',nn',kk',hr'⟩
  refine ⟨hr',fun hk=>?_,fun hk=>?_⟩
  · refine nx _ _ ?_
    dsimp only [Zax,Zb0,Zbt,Zbc,Zac,Zaf,Zau,Zah,Zae,List.getElem?_cons_succ,v_0,Zb1,ne_eq,Zby]
    refine ⟨by decide,by decide,fun t ht=>?_⟩
    exact q _ t zn ns _ (hE'.new ht) hzn (Zfw hzn' ht) Zad nn' kk' (by lia) (Za6 (by decide))
  · refine ⟨show 7 < 13 by decide,?_⟩
    refine w_st fun K nx=>?_
    dsimp only [List.set_cons_succ,List.set_cons_zero,Zaj,tv,List.length_cons,List.length_nil,Nat.reduceAdd,Zar,Zau,Zak,Zac,Zaf,Zae,List.getElem?_cons_succ,v_0,Zah,Zb1,ne_eq]
    refine ⟨by decide,Zul (hE' _ _ hwd) (Nat.le_trans w1 (by decide)) ⟨by lia,?_⟩⟩
    have w0':(0:Int) < (wds.length:Nat):=Int.ofNat_lt.mpr w0
    refine Zmg (hE' _ _ hwd) (Za6 w0') (Zbe w0') (Nat.le_trans w1 (by decide)) fun k4 hk4=>⟨by decide,nx _ _ ?_⟩
    refine w_st fun K nx=>?_
    dsimp only [Zaj,tv,List.length_cons,List.length_nil,Nat.reduceAdd,List.set_cons_succ,List.set_cons_zero,Zau,Zah,Zae,List.getElem?_cons_succ,v_0,Zb1,ne_eq]
    refine ⟨by decide,by decide,nx _ _ ?_⟩
    refine w_st fun K nx=>?_
    dsimp only [Zay]
    dsimp only [x_ao,Zaz,Zba,Zap,Zdm,Zae,List.getElem?_cons_succ,v_0,Zdn,Zai,bne_iff_ne,ne_eq]
    have stay:K [v0,v1,some (.ref wd),some (.str own),v4,v5,some (.ref z),some (.int k),v8,some (.int (r'.fdiv 3)),some (.ref zg),some (.ref zn),some (.str k4)] H':=nx _ _ (hI _ _ _ ⟨_,_,_,ns,rfl,hE',hzn',Nat.le_succ_of_le hl',nn',kk',hr'⟩)
    split
    · rename_i ho
      refine Zi2 (no:=true) hzn' ?_
      dsimp only [Zai]
      split
      · rename_i hi
        dsimp only [Zax,Zb0,Zal,x_bm,Zac,Zaf,Zae,List.getElem?_cons_succ,v_0]
        refine ⟨?_,?_⟩
        · show match H' zn with | some (.list _)=>_ | some (.dict _ _)=>_ | _=>False
          rw [hzn'];exact .inl rfl
        · have hrz:zr2≠zn:=fun e=>by rw [e,hzn'] at hr';cases hr'
          refine Zc8 hzn' (by rw [Zan];lia) (nx _ _ (hI _ _ _ ⟨_,_,_,ns ++ [k4],rfl,hE'.own hzn,by rw [Zad,Zd1],by rw [List.length_append];exact Nat.succ_le_succ hl',?_,fun s hs=>?_,by rw [Zab hrz];exact hr'⟩))
          · show (own :: ns ++ [k4]).Nodup
            rw [List.nodup_append]
            refine ⟨nn',List.nodup_cons.mpr ⟨List.not_mem_nil,List.nodup_nil⟩,fun a ha b hb e=>?_⟩
            rw [List.mem_singleton.mp hb] at e
            rcases List.mem_cons.mp ha with e1 | h1
            · rw [← e,e1] at ho;exact absurd ho (by simp)
            · rw [← e,decide_eq_true h1] at hi;cases hi
          · rcases List.mem_append.mp hs with hs | hs
            · exact kk' s hs
            · rw [List.mem_singleton.mp hs];exact hk4
      · exact stay
    · exact stay
end
end Mine
end
section
open PySem PySem.W PyProof.Rows PySem.Spec PySem.SeqAt PySem.Calls
namespace Mine
open L12
inductive Ga (H:Zaa) (v0 v1 v2 v3 v4 v5 v6 v8 v9:Option AV) (pur:List Str) (r t m:Int) (zg zr:Addr) (k:Nat) (V':VV) (H':Zaa):Prop
  | mk (p7:Option AV) (hV:V'=[v0,v1,v2,v3,v4,v5,v6,p7,v8,v9,some (.ref zg),none,none]) (hE:Ext H H') (hg:PL H' zg (gl12 pur r t k)) (hr:H' zr=some (.range 1 m))
inductive Pa (H:Zaa) (v0 v1 v2 v3 v4 v5:Option AV) (pur:List Str) (cl m:Int) (z zr:Addr) (k:Nat) (V':VV) (H':Zaa):Prop
  | mk (p7:Option AV) (hV:V'=[v0,v1,v2,v3,v4,v5,some (.ref z),p7,none,none,none,none,none]) (hE:Ext H H') (hz:PL H' z (pl12 pur cl k)) (hr:H' zr=some (.range 0 m))
section
variable {c:Cx} {n:Nat} {Q:AV→Zaa→Prop} {E:String→Zaa→Prop} {H:Zaa}
theorem Zje {pu:Addr} {pur:List Str} {x:Int} {j:Nat} {Q:AV→Zaa→Prop} (h:H pu=some (.list (txs pur))) (p0:0 < pur.length) (p1:pur.length≤100) (q:Q (.str (Zck pur x j)) H):wsub (.ref pu) (.int ((x + j).fmod pur.length)) Q H:=by
  have h0:=Za6 (x:=x + j) (m:=pur.length) (Int.ofNat_lt.mpr p0)
  rw [← Int.toNat_of_nonneg h0]
  exact Zha h (Zjf p0) (Nat.le_trans p1 (by decide)) q
theorem Zw3 {g:Gx} {QN:VV→Zaa→Prop} {EE:String→VV→Zaa→Prop} {v0 v2 v3 v5 v6 v7:Option AV} {r t:Int} {pu:Addr} {pur:List Str} (hmd:g.md=true) (hpu:H pu=some (.list (txs pur))) (p0:0 < pur.length) (p1:pur.length≤100) (np:∀ s∈pur,isNm s=true) (t0:1≤t) (t1:t≤1000)
    (q:∀ H' zg k v7,Ext H H'→H zg=none→PL H' zg (gl12 pur r t k)→k + 1≤8→k + 1≤pur.length→(k:Int) + 1≤t→wpSs g (L12.f__law_pact_by.body.drop 9) QN Q EE [v0,some (.ref pu),v2,v3,some (.int pur.length),v5,v6,v7,some (.int t),some (.int r),some (.ref zg),none,none] H') :
    wpSs g (L12.f__law_pact_by.body.drop 7) QN Q EE [v0,some (.ref pu),v2,v3,some (.int pur.length),v5,v6,v7,some (.int t),some (.int r),none,none,none] H:=by
  have ct0:(0:Int) < (pur.length:Nat):=Int.ofNat_lt.mpr p0
  refine w_st fun K nx=>?_
  dsimp only [Zaj,tv,List.length_cons,List.length_nil,Nat.reduceAdd,List.set_cons_succ,List.set_cons_zero,Zaw,Zac,Zaf,Zbc,Zae,List.getElem?_cons_succ,v_0,Zar,Zau,Zby,ne_eq]
  refine ⟨Int.ne_of_gt ct0,?_⟩
  have:=Zje (x:=r) (j:=0) (Q:=fun u H=>∀ t1,H t1=none→∀ z1,up H t1 (.tuple [u,.int t]) z1=none→10 < 13∧K [v0,some (.ref pu),v2,v3,some (.int pur.length),v5,v6,v7,some (.int t),some (.int r),some (.ref z1),none,none] (up (up H t1 (.tuple [u,.int t])) z1 (.list [.ref t1]))) hpu p0 p1
  rw [show r + ((0:Nat):Int)=r from Int.add_zero r] at this
  refine this ?_
  intro t1 ht1 z1 hz1
  have E4:=(Ext.refl.new (o:=.tuple [.str (Zck pur r 0),.int t]) ht1).new (o:=.list [.ref t1]) hz1
  have kr:∀ j,Kv (.str (Zck pur r j)):=fun j=>Kv.nm (np _ (Zgu p0))
  have g4:PL (up (up H t1 (.tuple [.str (Zck pur r 0),.int t])) z1 (.list [.ref t1])) z1 (gl12 pur r t 0):=⟨[t1],Zad,⟨⟨rfl,by rw [show t - ((0:Nat):Int)=t from Int.sub_zero t];exact Zfw Zad hz1,kr 0,Kv.int⟩,trivial⟩⟩
  refine ⟨by decide,nx _ _ ?_⟩
  have nz1:H z1=none:=(Ext.refl.new ht1).none hz1
  generalize up (up H t1 (.tuple [.str (Zck pur r 0),.int t])) z1 (.list [.ref t1])=H4 at E4 g4
  clear hz1 ht1 this
  refine w_st fun K nx=>?_
  dsimp only [Zbd]
  refine ⟨hmd,?_⟩
  dsimp only [Zak,wtg,Zac,Zaf,Zae,List.getElem?_cons_succ,v_0,Zau,Zah,Zb1,ne_eq,Zby,Zb5,Zyc]
  refine ⟨by decide,by decide,hmd,?_⟩
  have c0:=Za6 (x:=r.fdiv 12) (m:=8) (by decide)
  have c1:=Zbe (x:=r.fdiv 12) (m:=8) (by decide)
  obtain ⟨m,hm,m1,m8,mc,mt⟩:∃ m:Int,min (1 + (r.fdiv 12).fmod 8) (min (pur.length:Int) t)=m∧1≤m∧m≤8∧m≤pur.length∧m≤t:=⟨_,rfl,by lia,by lia,by lia,by lia⟩
  rw [hm,Zgx]
  clear hm c0 c1
  refine ⟨⟨by decide,by decide,by lia,by lia⟩,fun zr hzr=>?_⟩
  have E5:=Ext.refl.new (o:=.range 1 m) hzr
  have hr:up H4 zr (.range 1 m) zr=some (.range 1 m):=Zad
  generalize up H4 zr (.range 1 m)=H5 at E5 hr
  refine Zxl hr (Ga H v0 (some (.ref pu)) v2 v3 (some (.int pur.length)) v5 v6 (some (.int t)) (some (.int r)) pur r t m z1 zr) ⟨_,rfl,E4.trans E5,g4.ext E5,hr⟩ ?_
  rintro I hI k V' H' ⟨p7,rfl,hE,hg,hr'⟩
  refine ⟨hr',fun hk=>nx _ _ (q H' z1 k p7 hE nz1 hg (by lia) (by lia) (by lia)),fun hk=>?_⟩
  refine ⟨show 7 < 13 by decide,?_⟩
  have hrz:zr≠z1:=fun e=>by obtain ⟨ts,h,_⟩:=hg;rw [← e,hr'] at h;cases h
  refine w_st fun K nx=>?_
  have hg':=hg
  obtain ⟨ts,hz,hp⟩:=hg'
  have ln:=Zb9 hp
  rw [Zek,Zm5] at ln
  obtain ⟨t0',ts',rfl⟩:∃ t0 ts',ts=t0 :: ts':=by
    cases ts with
    | nil=>cases ln
    | cons a l=>exact ⟨a,l,rfl⟩
  have ht0:H' t0'=some (.tuple [.str (Zck pur r 0),.int (t - k)]):=hp.1.2.1
  have hl0:((t0' :: ts').map AV.ref).length≤1000:=by rw [List.length_map,ln];lia
  dsimp only [List.set_cons_succ,List.set_cons_zero,Zaj,Zbc,Zac,Zaf,Zau,Zah,Zar,Zae,List.getElem?_cons_succ,v_0]
  refine Zex (j:=0) hz rfl hl0 ?_
  refine Zjx (j:=0) ht0 rfl (show 2≤1000 by decide) ?_
  refine Zex (j:=0) hz rfl hl0 ?_
  refine Zjx (j:=1) ht0 rfl (show 2≤1000 by decide) ?_
  intro t2 ht2
  refine hg.set0 ht2 (kr 0) _ (by rw [List.length_map,List.length_range];lia) fun H6 g6 e6 k6=>nx _ _ ?_
  have hr6:=k6 _ _ hrz hr'
  have hE6:=e6 H nz1 hE
  refine w_st fun K nx=>?_
  dsimp only [Zal,x_bm,Zac,Zaf,Zbc,Zah,Zar,Zau,Zae,List.getElem?_cons_succ,v_0,Zb5,Zby,ne_eq]
  refine ⟨?_,Int.ne_of_gt ct0,?_⟩
  · obtain ⟨ts,hz',_⟩:=g6
    show match H6 z1 with | some (.list _)=>_ | some (.dict _ _)=>_ | _=>False
    rw [hz'];exact .inl rfl
  have:=Zje (H:=H6) (x:=r) (j:=k + 1) (Q:=fun u H=>∀ t3,H t3=none→wbm (.ref z1) .append [.ref t3] (fun _ H=>K [v0,some (.ref pu),v2,v3,some (.int pur.length),v5,v6,some (.int (1 + k)),some (.int t),some (.int r),some (.ref z1),none,none] H) (up H t3 (.tuple [u,.int 1]))) (hE6 _ _ hpu) p0 p1
  rw [show r + ((k + 1:Nat):Int)=r + (1 + (k:Int)) by lia] at this
  refine this ?_
  intro t3 ht3
  refine g6.snoc ht3 (kr (k + 1)) _ (by rw [List.length_cons,List.length_map,List.length_range];lia) fun H7 g7 e7 k7=>nx _ _ (hI _ _ _ ⟨_,rfl,e7 H nz1 hE6,?_,k7 _ _ hrz hr6⟩)
  rw [Zkl];exact g7
end
end Mine
end
section
open PySem PySem.W PyProof.Rows PySem.Spec PySem.SeqAt PySem.Calls
namespace Mine
open L12
section
variable {c:Cx} (G:Gd c L12.P) {n:Nat} {Q:AV→Zaa→Prop} {E:String→Zaa→Prop} {H:Zaa}
include G
set_option tactic.hygienic true in
theorem Znw {cl:Int} {pu wd:Addr} {own:Str} {pur wds:List Str} (hpu:H pu=some (.list (txs pur))) (hwd:H wd=some (.list (txs wds))) (nd:pur.Nodup) (p0:0 < pur.length) (p1:pur.length≤100) (w0:0 < wds.length) (w1:wds.length≤100) (np:∀ k∈pur,isNm k=true) (nw:∀ k∈wds,isNm k=true)
    (q:∀ H' t ps gs ns last,Ext H H'→Zry pur own ps gs ns last→RwF H H' t own ps gs ns last→Q (.ref t) H'):CallOK c (n + 1) true "_law_pact_by" [.int cl,.ref pu,.ref wd,.str own] Q E H:=by
  refine G.call (F:=L12.f__law_pact_by) rfl rfl ?_
  show wpSs _ _ _ _ _ [some (.int cl),some (.ref pu),some (.ref wd),some (.str own),none,none,none,none,none,none,none,none,none] _
  have ct0:(0:Int) < (pur.length:Nat):=Int.ofNat_lt.mpr p0
  refine w_st fun K nx=>?_
  dsimp only [Zaj,tv,List.length_cons,List.length_nil,Nat.reduceAdd,List.set_cons_succ,List.set_cons_zero,Zak,Zac,Zaf,Zae,List.getElem?_cons_succ,v_0]
  refine Zul hpu (Nat.le_trans p1 (by decide)) ⟨by decide,nx _ _ ?_⟩
  refine w_st fun K nx=>?_
  dsimp only [Zaj,tv,List.length_cons,List.length_nil,Nat.reduceAdd,List.set_cons_succ,List.set_cons_zero,Zau,Zah,Zae,v_0,Zby,ne_eq,Zb5]
  refine ⟨by decide,by decide,nx _ _ ?_⟩
  refine w_st fun K nx=>?_
  have go:∀ sz:Int,1≤sz→sz≤8→K [some (.int cl),some (.ref pu),some (.ref wd),some (.str own),some (.int pur.length),some (.int sz),none,none,none,none,none,none,none] H:=fun sz s1 s8=>by
    refine nx _ _ ?_
    refine w_st fun K nx=>?_
    dsimp only [Zaj,tv,List.length_cons,List.length_nil,Nat.reduceAdd,List.set_cons_succ,List.set_cons_zero,Zaw,Zaf]
    intro z hz
    refine ⟨by decide,nx _ _ ?_⟩
    have E1:=Ext.refl.new (o:=.list []) hz
    have hz1:PL (up H z (.list [])) z []:=.nil Zad
    generalize up H z (.list [])=H1 at E1 hz1
    refine w_st fun K nx=>?_
    dsimp only [Zbd]
    refine ⟨rfl,?_⟩
    dsimp only [Zak,wtg,Zac,Zaf,Zae,List.getElem?_cons_succ,v_0]
    refine ⟨rfl,?_⟩
    obtain ⟨m,hm,m1,m8,mc⟩:∃ m:Int,(if (pur.length:Int) < sz then (pur.length:Int) else sz)=m∧1≤m∧m≤8∧m≤pur.length:=⟨_,rfl,by split <;> assumption,by split <;> lia,by split <;> lia⟩
    rw [hm]
    clear hm
    refine Zlm (by exact Int.le_of_lt (by assumption)) (by lia) fun zr H2 hzr E2 hr=>?_
    refine Znj hr (Pa H _ _ _ _ _ _ pur cl m z zr) ⟨_,rfl,E1.trans E2,hz1.ext E2,hr⟩ ?_
    rintro I hI k V' H' ⟨p7,rfl,hE,hzp,hr'⟩
    refine ⟨hr',fun hk=>?_,fun hk=>?_⟩
    · refine nx _ _ ?_
      have k1:1≤k:=by lia
      have k8:k≤8:=by lia
      have kc:k≤pur.length:=by lia
      clear hk hI hr' m1 m8 mc hr
      have pok:=Zv5 (c:=cl) nd p0 k1 k8 kc
      have sb:=Zxq (l:=pl12 pur cl k) fun e he=>(Zuk he k8 p0).2
      rw [Zgw] at sb
      refine w_st fun K nx=>?_
      dsimp only [Zaj]
      refine Zxp rfl rfl rfl hzp (by rw [Zgw];exact Nat.le_trans k8 (by decide)) fun H3 E3=>⟨show 8 < 13 by decide,nx _ _ ?_⟩
      have hE3:=hE.trans E3
      have hz3:=hzp.ext E3
      have e0:∃ t,sumL (pl12 pur cl k)=t:=⟨_,rfl⟩
      obtain ⟨t,ht⟩:=e0
      rw [ht] at sb
      rw [ht]
      refine w_st fun K nx=>?_
      dsimp only [List.set_cons_succ,List.set_cons_zero,Zaj,tv,List.length_cons,List.length_nil,Nat.reduceAdd,Zau,Zah,Zae,v_0,Zb1,ne_eq]
      refine ⟨by decide,by decide,nx _ _ ?_⟩
      generalize cl.fdiv 1440=r
      refine Zw3 (r:=r) rfl (hE3 _ _ hpu) p0 p1 np (by lia) (by lia) fun H4 zg kg v7 E4 nzg hg g8 gc gt=>?_
      refine Zwe rfl (E4 _ _ (hE3 _ _ hwd)) w0 w1 fun H5 tt zn ns last E5 nzn hzn htt nn kk l8 la=>?_
      have hE5:=(hE3.trans E4).trans E5
      refine q H5 tt (pl12 pur cl k) (gl12 pur r t kg) ns last hE5 ⟨pok,Zw2 nd p0 g8 gc gt (by lia),by rw [Zto];exact ht,nn,fun s hs=>nw s (kk s hs),l8,la⟩ fun H6 h=>?_
      have tp:∀ y v,H5 y=some (.tuple v)→H6 y=some (.tuple v):=fun y v hy=>h y _ (.inr ⟨v,rfl⟩) hy
      exact ⟨z,zg,zn,tp _ _ htt,((hz3.ext E4).ext E5).ag (fun x=>h z x (.inl hz)) tp,(hg.ext E5).ag (fun x=>h zg x (.inl (hE3.none nzg))) tp,h zn _ (.inl ((hE3.trans E4).none nzn)) hzn⟩
    · refine ⟨show 7 < 13 by decide,?_⟩
      refine w_st fun K nx=>?_
      dsimp only [List.set_cons_succ,List.set_cons_zero,Zal,x_bm,Zac,Zaf,Zbc,Zau,Zae,List.getElem?_cons_succ,v_0,Zah,Zd6,Zb1,ne_eq,Zby,Zb5,Zar]
      refine ⟨?_,?_⟩
      · obtain ⟨ts,hz',_⟩:=hzp
        show match H' z with | some (.list _)=>_ | some (.dict _ _)=>_ | _=>False
        rw [hz'];exact .inl rfl
      refine ⟨by decide,Int.ne_of_gt ct0,?_⟩
      refine Zje (x:=cl.fdiv 120) (j:=k) (hE _ _ hpu) p0 p1 ?_
      refine ⟨by decide,by decide,IntMulOk.of_left (by decide +kernel),fun t ht=>?_⟩
      refine hzp.snoc ht (Kv.nm (np _ (Zgu p0))) _ (by rw [Zgw];lia) fun H3 g3 e3 k3=>nx _ _ (hI _ _ _ ⟨_,rfl,e3 H hz hE,by rw [Zpj];exact g3,k3 _ _ (fun e=>?_) hr'⟩)
      obtain ⟨ts,hz',_⟩:=hzp
      rw [e,hz'] at hr';cases hr'
  have a0:=Za6 (x:=cl) (m:=3) (by decide)
  have a1:=Zbe (x:=cl) (m:=3) (by decide)
  have b0:=Za6 (x:=cl.fdiv 300) (m:=6) (by decide)
  have b1:=Zbe (x:=cl.fdiv 300) (m:=6) (by decide)
  dsimp only [Zay]
  dsimp only [Zap,Zah,Zau,Zae,v_0,Zb1,ne_eq,Zby,c_eq,Zai,beq_iff_eq]
  refine ⟨by decide,by decide,?_⟩
  split
  · dsimp only [Zax,Zb0,Zaj,tv,List.length_cons,List.length_nil,Nat.reduceAdd,List.set_cons_succ,List.set_cons_zero,Zau,Zah,Zae,v_0,Zb1,ne_eq,Zby,Zb5]
    exact ⟨by decide,by decide,by decide,go _ (by lia) (by lia)⟩
  · exact go _ (by lia) (by lia)
end
end Mine
end
section
open PySem PySem.W PyProof.Rows PySem.Spec PySem.SeqAt PySem.Calls
namespace Mine
open L12
theorem U12:HasP L12.P:=⟨⟨rfl,rfl,rfl,rfl,rfl,rfl,rfl,rfl,rfl,rfl,rfl,rfl,rfl,rfl⟩,rfl,rfl⟩
theorem er12:∀ e∈errs,Ziv L12.P e "BookError" = true:=by decide +kernel
theorem Z01 {g:Gx} {b:List S} {cl:String} {QN:VV→Zaa→Prop} {QR:AV→Zaa→Prop} {EE:String→VV→Zaa→Prop} {V:VV} {H:Zaa} (hP:g.c.P=L12.P) (h:cl∈errs) (q:wpSs { g with md:=false } b QN QR (fun _ _ _=>False) V H):wpHs g [.mk "BookError" none b] cl QN QR EE V H:=by
  (dsimp only [Zm3,Zzm];rw [hP])
  exact Eq.mpr (if_pos (er12 cl h)) q
section
variable {c:Cx} (G:Gd c L12.P) {n:Nat} {V:VV} {Q:AV→Zaa→Prop} {E:String→Zaa→Prop} {H:Zaa} {b:Addr} {B:Bk} {k nm:Str} {pur:List Str} {rs:List (Str×List (Str×Int))} {tot w a:Int} {j0:Nat} {x0:Pc}
theorem Zl2 {B':Bk} {z:Addr} {o:AObj} (hb:H b=some (.book B)) (hz:H z=none):Kb b H (up (up H b (.book B')) z o)∧up (up H b (.book B')) z o b=some (.book B'):=by
  have hn:b≠z:=Zc6 hb hz
  exact ⟨Kb.up.trans (.ext (Ext.refl.new (by rw [Zab hn.symm];exact hz))),by rw [Zab hn];exact Zad⟩
include G
set_option tactic.hygienic true in
theorem Zw8 (hb:H b=some (.book B)) (I:Inv pur rs B tot) (kk:Kv (.str k)) (kn:Kv (.str nm)) (hx:pAt B.pacts nm=some (j0,x0)) (w0:0≤w) (w1:w < 13) (q0:Q (.bool false) H) (q:∀ H' B' tot',Kb b H H'→H' b=some (.book B')→Inv pur rs B' tot'→Eff w k nm (dK w a (sAt x0.parts k)) B B'→Q (.bool true) H'):CallOK c (n + 5) true "_law_done" [.ref b,.int w,.str k,.str nm,.int a] Q E H:=by
  refine G.call (F:=L12.f__law_done) rfl rfl ?_
  have hM:c.P.meths=BK.meths:=by rw [G.hP];rfl
  show wpSs _ _ _ _ _ [some (.ref b),some (.int w),some (.str k),some (.str nm),some (.int a)] _
  refine w_st fun K nx=>?_
  have fin:∀ H' B' tot',Kb b H H'→H' b=some (.book B')→Inv pur rs B' tot'→Eff w k nm (dK w a (sAt x0.parts k)) B B'→K [some (.ref b),some (.int w),some (.str k),some (.str nm),some (.int a)] H':=fun H' B' tot' h1 h2 h3 h4=>nx _ _ (q H' B' tot' h1 h2 h3 h4)
  have bad:∀ {cl:String},cl∈errs→wpHs ⟨c,n + 4,true⟩ [.mk "BookError" none [.ret (.lit (.bool false))]] cl K Q (fun cl _ H=>E cl H) [some (.ref b),some (.int w),some (.str k),some (.str nm),some (.int a)] H:=fun h=>Z01 G.hP h q0
  rw [Zdp]
  refine ⟨rfl,?_⟩
  rw [Zax,Zay]
  dsimp only [Zap,Zah,Zae,List.getElem?_cons_succ,v_0,c_lt,Zai,decide_eq_true_eq]
  split
  · rename_i hw
    rw [Zax,Zal]
    refine Zcx hM (by decide) (by decide) hb rfl ?_
    dsimp only [String.reduceAppend,Zac,Zaf,Zae,List.getElem?_cons_succ,v_0]
    refine Zxe G U12 rfl rfl hb kk.kn kn.kn I.ok ?_
    have er:=Zt6 (B:=B) (v:=.str k) (w:=.str nm)
    have iv:=fun {B'}=>I.aside (B':=B') (k:=k) (nm:=nm)
    have ef:=fun {B'} h=> Zrb (B':=B') (k:=k) (nm:=nm) (w:=w) (a:=a) I hx h (by lia)
    revert er iv ef
    cases Zfv B (.str k) (.str nm) with
    | error cl=>exact fun er _ _=>bad er
    | ok B'=>exact fun _ iv ef=>fin _ B' _ .up Zad (iv rfl) (ef rfl)
  rw [Zax,Zay]
  dsimp only [Zap,Zah,Zae,List.getElem?_cons_succ,v_0,c_eq,Zai,beq_iff_eq]
  split
  · rename_i hw
    rw [Zax,Zal]
    refine Zcx hM (by decide) (by decide) hb rfl ?_
    dsimp only [String.reduceAppend,Zac,Zaf,Zae,List.getElem?_cons_succ,v_0]
    refine Zzu G U12 rfl rfl rfl hb kk.kn kn.kn I.ok ?_
    have er:=Zw7 (B:=B) (v:=.str k) (w:=.str nm)
    have iv:=fun {B'}=>I.draw (B':=B') (k:=k) (nm:=nm)
    have ef:=fun {B'} h=> Zty (B':=B') (k:=k) (nm:=nm) (w:=w) (a:=a) I hx h (by lia)
    revert er iv ef
    cases Zjo B (.str k) (.str nm) with
    | error cl=>exact fun er _ _=>bad er
    | ok B'=>exact fun _ iv ef=>fin _ B' _ .up Zad (iv rfl) (ef rfl)
  rw [Zax,Zay]
  dsimp only [Zap,Zah,Zae,List.getElem?_cons_succ,v_0,c_lt,Zai,decide_eq_true_eq]
  split
  · rename_i hw
    rw [Zax,Zal]
    refine Zcx hM (by decide) (by decide) hb rfl ?_
    dsimp only [String.reduceAppend,Zaf]
    refine Zsi (n:=n + 1) G U12 rfl rfl rfl rfl rfl rfl hb I.ok I.nm fun z g hz hg=>?_
    have:=Zl2 (B':=Zdf g B) (o:=.list (txs g)) hb hz
    exact fin _ _ _ this.1 this.2 (I.settle hg.sub) (Zok I hg.sub (by lia))
  rw [Zax,Zay]
  dsimp only [Zap,Zah,Zae,List.getElem?_cons_succ,v_0,c_eq,Zai,beq_iff_eq]
  split
  · rename_i hw
    rw [Zax,Zal]
    refine Zcx hM (by decide) (by decide) hb rfl ?_
    dsimp only [String.reduceAppend,Zac,Zaf,Zae,List.getElem?_cons_succ,v_0]
    refine Zx9 (n:=n + 1) G U12.a rfl hb kk.kn Kv.int.kn I.ok.sz ?_
    have er:=Zx8 (B:=B) (v:=.str k) (a:=.int a)
    have iv:=fun {B'}=>I.put (B':=B') (v:=.str k) (a:=.int a)
    have ef:=fun {B'} h=> Zw5 (B':=B') (B:=B) (k:=k) (nm:=nm) (w:=w) (a:=a) (o:=sAt x0.parts k) h (by lia)
    revert er iv ef
    cases putQ B (.str k) (.int a) with
    | error cl=>exact fun er _ _=>bad er
    | ok B'=>exact fun _ iv ef=>fin _ B' _ .up Zad (iv rfl) (ef rfl)
  rw [Zax,Zay]
  dsimp only [Zap,Zah,Zae,List.getElem?_cons_succ,v_0,c_eq,Zai,beq_iff_eq]
  split
  · rename_i hw
    rw [Zax,Zal]
    refine Zcx hM (by decide) (by decide) hb rfl ?_
    dsimp only [String.reduceAppend,Zac,Zaf,Zae,List.getElem?_cons_succ,v_0]
    refine Zxn (n:=n + 1) G U12.a rfl hb kk.kn Kv.int.kn I.ok.sz ?_
    have er:=Zve (B:=B) (v:=.str k) (a:=.int a)
    have iv:=fun {B'}=>I.take (B':=B') (v:=.str k) (a:=.int a)
    have ef:=fun {B'} h=> Ztw (B':=B') (B:=B) (k:=k) (nm:=nm) (w:=w) (a:=a) (o:=sAt x0.parts k) h (by lia)
    revert er iv ef
    cases Zjv B (.str k) (.int a) with
    | error cl=>exact fun er _ _=>bad er
    | ok B'=>exact fun _ iv ef=>fin _ B' _ .up Zad (iv rfl) (ef rfl)
  rw [Zax,Zay]
  dsimp only [Zap,Zah,Zae,List.getElem?_cons_succ,v_0,c_eq,Zai,beq_iff_eq]
  split
  · rename_i hw
    rw [Zax,Zal]
    refine Zcx hM (by decide) (by decide) hb rfl ?_
    dsimp only [String.reduceAppend,Zac,Zaf,Zae,List.getElem?_cons_succ,v_0]
    refine Z0u G U12 rfl rfl rfl rfl rfl hb I.ok kn.kn ?_
    have er:=Zyr (B:=B) (w:=.str nm)
    have iv:=fun {r}=>I.off (r:=r) (w:=.str nm)
    have ef:=fun {r} h=>Zw6 (r:=r) (v:=.str nm) (k:=k) (nm:=nm) (w:=w) (a:=a) (o:=sAt x0.parts k) I h (by lia)
    revert er iv ef
    cases offQ B (.str nm) with
    | error cl=>exact fun er _ _=>bad er
    | ok r=>exact fun _ iv ef z hz=>have h:=Zl2 (B':=r.1) (o:=.list (txs r.2)) hb hz;fin _ r.1 _ h.1 h.2 (iv rfl) (ef rfl)
  · rw [Zax,Zal]
    refine Zcx hM (by decide) (by decide) hb rfl ?_
    dsimp only [String.reduceAppend,Zac,Zaf,Zau,Zah,Zae,List.getElem?_cons_succ,v_0,Zby,ne_eq,Zb5]
    refine ⟨by decide,Zyb G U12 rfl rfl rfl rfl rfl hb I.ok Kv.int.kn ?_⟩
    have er:=Zv7 (B:=B) (w:=.int (1 + a.fmod 2))
    have iv:=fun {r}=>I.pass (r:=r) (w:=.int (1 + a.fmod 2))
    have ef:=fun {r} h=>Ztx (r:=r) (v:=.int (1 + a.fmod 2)) (k:=k) (nm:=nm) (w:=w) (a:=a) (o:=sAt x0.parts k) I h (by lia)
    revert er iv ef
    cases Zh6 B (.int (1 + a.fmod 2)) with
    | error cl=>exact fun er _ _=>bad er
    | ok r=>exact fun _ iv ef z hz=>have h:=Zl2 (B':=r.1) (o:=.list (txs r.2)) hb hz;fin _ r.1 _ h.1 h.2 (iv rfl) (ef rfl)
end
end Mine
end
section
open PySem PySem.W PyProof.Rows PySem.Spec PySem.SeqAt PySem.Calls
namespace Mine
open L12
noncomputable def All2 {α β:Type} (p:α→β→Prop):List α→List β→Prop
  | [],[]=>True
  | a :: as,b :: bs=>p a b∧All2 p as bs
  | _,_=>False
theorem All2.ind {α β:Type} {p:α→β→Prop} {C:List α→List β→Prop} {as:List α} {bs:List β} (h:All2 p as bs) (h0:C [] []) (h1:∀ a b as bs,p a b→C as bs→C (a :: as) (b :: bs)):C as bs:=by
  induction as generalizing bs with
  | nil=>cases bs with
    | nil=>exact h0
    | cons=>exact h.elim
  | cons a as ih=>cases bs with
    | nil=>exact h.elim
    | cons b bs=>exact h1 a b as bs h.1 (ih h.2)
section
variable {α β:Type} {p p':α→β→Prop} {as as':List α} {bs bs':List β}
theorem All2.map (h:All2 p as bs) (f:∀ {a b},p a b→p' a b):All2 p' as bs:=h.ind (C:=All2 p') trivial fun _ _ _ _ h ih=>⟨f h,ih⟩
theorem All2.len (h:All2 p as bs):as.length=bs.length:=h.ind (C:=fun as bs=>as.length=bs.length) rfl fun _ _ _ _ _ ih=>congrArg Nat.succ ih
theorem All2.app (h:All2 p as bs) (h':All2 p as' bs'):All2 p (as ++ as') (bs ++ bs'):=h.ind (C:=fun as bs=>All2 p (as ++ as') (bs ++ bs')) h' fun _ _ _ _ h ih=>⟨h,ih⟩
theorem All2.get (h:All2 p as bs) {j:Nat} {a:α}:as[j]? = some a→∃ b,bs[j]? = some b∧p a b :=
  h.ind (C:=fun as bs=>∀ j,as[j]? = some a→∃ b,bs[j]? = some b∧p a b) (fun j e=>by cases e) (fun a' b as bs h ih j=>by
    cases j with
    | zero=>exact fun e=>by cases e;exact ⟨b,rfl,h⟩
    | succ j=>exact ih j) j
theorem All2.take (h:All2 p as bs) (k:Nat):All2 p (as.take k) (bs.take k) :=
  h.ind (C:=fun as bs=>∀ k,All2 p (as.take k) (bs.take k)) (fun k=>by rw [List.take_nil,List.take_nil];trivial) (fun a b as bs h ih k=>by
    cases k with
    | zero=>trivial
    | succ k=>exact ⟨h,ih k⟩) k
theorem All2.snoc {a:α} {b:β} (h:All2 p as bs) (x:p a b):All2 p (as ++ [a]) (bs ++ [b]):=h.app ⟨x,trivial⟩
end
abbrev Zdg (H:Zaa):List Addr→List Pc→Prop:=All2 fun t x=>∃ ns last,Rw H t x.name x.parts x.gains ns last
abbrev Zc2 (H:Zaa):List Addr→List (List Str)→Prop:=All2 fun u l=>H u=some (.list (txs l))
inductive Sn (H:Zaa) (t:Addr) (B:Bk) (pur:List Str):Prop
  | mk (f i s:Addr) (us:List Addr) (ht:H t=some (.tuple [.ref f,.ref i,.ref s])) (hf:H f=some (.list (pur.map fun p=>.int (vl B.free p)))) (hi:H i=some (.list (us.map .ref))) (hu:Zc2 H us (B.pacts.map Zat)) (hs:H s=some (.list (B.pacts.map fun x=>.str x.state.str)))
section
variable {H H':Zaa} {b:Addr} {B:Bk} {ts:List Addr} {xs:List Pc} {ls:List (List Str)}
theorem Zem (h:Zdg H ts xs) (e:Ext H H'):Zdg H' ts xs:=h.map fun ⟨ns,last,r⟩=>⟨ns,last,r.ext e⟩
theorem Zlf (h:Zdg H ts xs) (hb:H b=some (.book B)) (e:Kb b H H'):Zdg H' ts xs:=h.map fun ⟨ns,last,r⟩=>⟨ns,last,r.kb hb e⟩
theorem Zcd (h:Zc2 H ts ls) (e:Ext H H'):Zc2 H' ts ls:=h.map fun r=>e _ _ r
theorem Zvg {Q:AV→Zaa→Prop} {a:Addr} {xs:List AV} {i:Int} (h:H a=some (.list xs)) (h0:0≤i) (h1:i < xs.length) (hl:xs.length≤1000) (q:∀ v∈xs,Q v H):wsub (.ref a) (.int i) Q H:=by
  have hlt:i.toNat < xs.length:=by lia
  have:=Zex (Q:=Q) (j:=i.toNat) h (List.getElem?_eq_getElem hlt) hl (q _ (List.getElem_mem hlt))
  rw [Int.toNat_of_nonneg h0] at this
  exact this
theorem row5 {g:Gx} {V:VV} {Q:AV→Zaa→Prop} {E:String→Zaa→Prop} {t:Addr} {i j:Nat} {xs:List AV} {w:AV} (hV:V[i]? = some (some (.ref t))) (ht:H t=some (.tuple xs)) (hl:xs.length≤1000) (hj:xs[j]? = some w) (q:Q w H):wpX g (.sub (.var i) (.lit (.int j))) V Q E H:=by
  (dsimp only [Zar,Zae];rw [hV])
  show wpX g (.lit (.int j)) V _ E H
  dsimp only [Zah]
  exact Zjx ht hj hl q
end
section
variable {c:Cx} (G:Gd c L12.P) {n:Nat} {Q:AV→Zaa→Prop} {E:String→Zaa→Prop} {H:Zaa} {b rl pu:Addr} {B:Bk} {pur:List Str} {rs:List (Str×List (Str×Int))} {tot:Int} {rts:List Addr}
include G
theorem Zq4 {V:VV} (hb:H b=some (.book B)) (I:Inv pur rs B tot) (np:∀ s∈pur,isNm s=true) (hpu:H pu=some (.list (txs pur))) (hV0:V[0]? = some (some (.ref b))) (hV1:V[1]? = some (some (.ref pu))) (hl:V.length=6) (q:∀ H' z,Ext H H'→H z=none→H' z=some (.list (pur.map fun p=>.int (vl B.free p)))→Q (.ref z) H') :
    wpX ⟨c,n + 3,true⟩ (.comp (.meth (.var 0) "free_of" [(.var 6)]) 1 false (.var 1) none) V Q E H:=by
  have hM:c.P.meths=BK.meths:=by rw [G.hP];rfl
  dsimp only [Za8,Zae]
  rw [hV1]
  refine ⟨rfl,?_⟩
  show Zk7 _ _ (.ref pu) _
  refine Zel (xs:=txs pur) (by simp only [Zas,hpu]) (by rw [Zan];exact Nat.le_trans I.pl (by decide)) (fun v=>some (.int (vl B.free (Zbi v)))) (fun y hy nx hnx=>?_) fun z hz=>?_
  · obtain ⟨s,hps,rfl⟩:=List.mem_map.mp hy
    (refine Eq.mpr (if_neg Bool.false_ne_true) ?_;dsimp only [Zbj];refine Eq.mpr (if_pos rfl) ?_)
    refine Zcx hM (by decide) (by decide) hb (by rw [List.getElem?_append_left (by rw [hl];decide)];exact hV0) ?_
    dsimp only [Zac,Zae,Zaf]
    rw [List.getElem?_append_right (by rw [hl];exact Nat.le_refl _),hl]
    refine Ztq G U12.a hb (Kv.nm (np s hps)).kn ?_
    have hpp:Zbz B (.str s)=true:=by show (isNm s && hs B.free s)=true;rw [np s hps,(Zdr I.fk).mpr hps];rfl
    rw [if_pos hpp]
    exact hnx
  · have e:(txs pur).filterMap (fun v=>some (.int (vl B.free (Zbi v))))=pur.map fun p=>AV.int (vl B.free p):=by
      unfold txs;rw [List.filterMap_map];exact congrFun (List.filterMap_eq_map (f:=fun p=>AV.int (vl B.free p))) pur
    rw [e]
    exact q _ z (Ext.refl.new hz) hz Zad
end
end Mine
end
section
open PySem PySem.W PyProof.Rows PySem.Spec PySem.SeqAt PySem.Calls
namespace Mine
open L12
section
variable {c:Cx} (G:Gd c L12.P) {n:Nat} {Q:AV→Zaa→Prop} {E:String→Zaa→Prop} {H:Zaa} {b rl pu:Addr} {B:Bk} {pur:List Str} {rs:List (Str×List (Str×Int))} {tot:Int} {rts:List Addr}
theorem Zx6 {j:Nat} {x:Pc} (I:Inv pur rs B tot) (hx:B.pacts[j]? = some x):Zch B (.str x.name)=some (j,x):=(if_pos (I.at hx).nm).trans (Zdj I.nm hx)
include G
theorem Ztj {V:VV} (hb:H b=some (.book B)) (I:Inv pur rs B tot) (hr:H rl=some (.list (rts.map .ref))) (hR:Zdg H rts B.pacts) (hV0:V[0]? = some (some (.ref b))) (hV2:V[2]? = some (some (.ref rl))) (hl:V.length=6) (q:∀ H' z us,Ext H H'→H z=none→H' z=some (.list (us.map .ref))→Zc2 H' us (B.pacts.map Zat)→Q (.ref z) H') :
    wpX ⟨c,n + 3,true⟩ (.comp (.prim .list [(.meth (.var 0) "inside_of" [(.sub (.var 6) (.lit (.int 0)))])]) 1 false (.var 2) none) V Q E H:=by
  have hM:c.P.meths=BK.meths:=by rw [G.hP];rfl
  have hlr:rts.length=B.pacts.length:=hR.len
  have hlen:=I.len
  dsimp only [Za8,Zae]
  rw [hV2]
  refine ⟨rfl,?_⟩
  show Zk7 _ _ (.ref rl) _
  refine ⟨rts.map .ref,by simp only [Zas,hr],by rw [List.length_map,hlr];exact Nat.le_trans hlen (by decide),fun k acc H'=>Ext H H'∧∃ us:List Addr,acc=us.map .ref∧Zc2 H' us ((B.pacts.map Zat).take k),⟨.refl,[],rfl,trivial⟩,?_⟩
  rintro k acc H' ⟨hE,us,rfl,hu⟩
  refine ⟨(hE _ _ hr).trans hr.symm,fun hk a ha=>?_,fun y hy=>?_⟩
  · rw [hk,List.length_map,hlr,List.take_of_length_le (by rw [List.length_map];exact Nat.le_refl _)] at hu
    exact q _ a us (hE.new ha) (hE.none ha) Zad (Zcd hu (Ext.refl.new ha))
  rw [List.getElem?_map,Option.map_eq_some_iff] at hy
  obtain ⟨t,ht,rfl⟩:=hy
  obtain ⟨x,hx,ns,last,hrow⟩:=hR.get ht
  obtain ⟨pl,gl,nl,ht',hp,hg,hn⟩:=hrow
  (refine Eq.mpr (if_neg Bool.false_ne_true) ?_;dsimp only [Zbj];refine Eq.mpr (if_pos rfl) ?_)
  dsimp only [Zak,Zac]
  refine Zcx hM (by decide) (by decide) (hE _ _ hb) (by rw [List.getElem?_append_left (by rw [hl];decide)];exact hV0) ?_
  dsimp only [Zac]
  refine row5 (j:=0) (by rw [List.getElem?_append_right (by rw [hl];exact Nat.le_refl _),hl];rfl) (hE _ _ ht') (show 5≤1000 by decide) rfl ?_
  dsimp only [Zaf]
  refine Zti (n:=n) G U12 rfl (hE _ _ hb) I.ok (Kv.nm (I.at hx).nm).kn ?_
  rw [Zx6 I hx]
  intro z hz
  have E1:=Ext.refl.new (o:=.list (txs (Zat x))) hz
  have hlx:(Zat x).length≤1000:=by
    unfold Zat
    rw [List.length_map]
    exact Nat.le_trans (List.length_filter_le _ _) (Nat.le_trans (I.at hx).ln.1 (by decide))
  refine Zf1 Zad hlx fun z2 hz2=>?_
  have E2:=E1.new (o:=.list (txs (Zat x))) hz2
  refine ⟨hE.trans E2,us ++ [z2],by rw [List.map_append];rfl,?_⟩
  rw [Za5 (l:=B.pacts.map Zat) (x:=Zat x) (by rw [List.getElem?_map,hx];rfl)]
  exact (Zcd hu E2).snoc Zad
theorem Zvk {V:VV} (hb:H b=some (.book B)) (I:Inv pur rs B tot) (hr:H rl=some (.list (rts.map .ref))) (hR:Zdg H rts B.pacts) (hV0:V[0]? = some (some (.ref b))) (hV2:V[2]? = some (some (.ref rl))) (hl:V.length=6) (q:∀ H' z,Ext H H'→H z=none→H' z=some (.list (B.pacts.map fun x=>.str x.state.str))→Q (.ref z) H') :
    wpX ⟨c,n + 3,true⟩ (.comp (.meth (.var 0) "state_of" [(.sub (.var 6) (.lit (.int 0)))]) 1 false (.var 2) none) V Q E H:=by
  have hM:c.P.meths=BK.meths:=by rw [G.hP];rfl
  have hlr:rts.length=B.pacts.length:=hR.len
  have hlen:=I.len
  dsimp only [Za8,Zae]
  rw [hV2]
  refine ⟨rfl,?_⟩
  show Zk7 _ _ (.ref rl) _
  refine ⟨rts.map .ref,by simp only [Zas,hr],by rw [List.length_map,hlr];exact Nat.le_trans hlen (by decide),fun k acc H'=>H'=H∧acc=(B.pacts.take k).map fun x=>.str x.state.str,⟨rfl,rfl⟩,?_⟩
  rintro k acc H' ⟨rfl,rfl⟩
  refine ⟨rfl,fun hk a ha=>?_,fun y hy=>?_⟩
  · rw [hk,List.length_map,hlr,List.take_length]
    exact q _ a (Ext.refl.new ha) ha Zad
  rw [List.getElem?_map,Option.map_eq_some_iff] at hy
  obtain ⟨t,ht,rfl⟩:=hy
  obtain ⟨x,hx,ns,last,hrow⟩:=hR.get ht
  obtain ⟨pl,gl,nl,ht',hp,hg,hn⟩:=hrow
  (refine Eq.mpr (if_neg Bool.false_ne_true) ?_;dsimp only [Zbj];refine Eq.mpr (if_pos rfl) ?_)
  refine Zcx hM (by decide) (by decide) hb (by rw [List.getElem?_append_left (by rw [hl];decide)];exact hV0) ?_
  dsimp only [Zac]
  refine row5 (j:=0) (by rw [List.getElem?_append_right (by rw [hl];exact Nat.le_refl _),hl];rfl) ht' (show 5≤1000 by decide) rfl ?_
  dsimp only [Zaf]
  refine Zvi G U12 rfl hb (Kv.nm (I.at hx).nm).kn ?_
  rw [Zx6 I hx]
  refine ⟨rfl,?_⟩
  rw [Za5 hx,List.map_append];rfl
end
end Mine
end
section
open PySem PySem.W PyProof.Rows PySem.Spec PySem.SeqAt PySem.Calls
namespace Mine
open L12
noncomputable def perms:List (List Int):=[[0,1,2],[1,2,0],[2,0,1],[2,1,0],[0,2,1],[1,0,2]]
inductive Sl (H:Zaa) (v0 v1 v2 v3:Option AV) (z u:Addr) (pur:List Str) (B:Bk) (ws:List Int) (k:Nat) (V':VV) (H':Zaa):Prop
  | mk (p5:Option AV) (a0 a1 a2:Addr) (hV:V'=[v0,v1,v2,v3,some (.ref z),p5]) (hE:Ext H H') (hz:H' z=some (.list [.ref a0,.ref a1,.ref a2])) (hu:H' u=some (.list (ws.map .int)))
    (h0:0∈ws.take k→H' a0=some (.list (pur.map fun p=>.int (vl B.free p)))) (h1:1∈ws.take k→∃ us:List Addr,H' a1=some (.list (us.map .ref))∧Zc2 H' us (B.pacts.map Zat)) (h2:2∈ws.take k→H' a2=some (.list (B.pacts.map fun x=>.str x.state.str)))
    (nz:a0≠z∧a1≠z∧a2≠z)
section
variable {g:Gx} {V:VV} {Q:AV→Zaa→Prop} {E:String→Zaa→Prop} {H:Zaa}
noncomputable def dispL (w:List Int):X:=.list (w.map fun i=>.lit (.int i))
theorem Zwk {QL:List AV→Zaa→Prop} {w:List Int} (q:QL (w.map .int) H):wpXs g (w.map fun i=>.lit (.int i)) V QL E H:=by
  induction w generalizing QL with
  | nil=>exact q
  | cons i w ih =>
    show wpXs g (.lit (.int i) :: _) V QL E H
    rw [Zac,Zah]
    exact ih (QL:=fun vs H=>QL (.int i :: vs) H) q
theorem Zt2 {QL:List AV→Zaa→Prop} {ps:List (List Int)} (q:∀ H' ys,Ext H H'→All2 (fun y w=>H' y=some (.list (w.map .int))) ys ps→QL (ys.map .ref) H'):wpXs g (ps.map dispL) V QL E H:=by
  induction ps generalizing QL H with
  | nil=>exact q H [] .refl trivial
  | cons w ps ih =>
    show wpXs g (dispL w :: _) V QL E H
    rw [Zac]
    show wpX g (.list _) V _ E H
    rw [Zaw]
    refine Zwk fun y hy=>?_
    have e:=Ext.refl.new (o:=.list (w.map .int)) hy
    refine ih fun H' ys e' h=>q H' (y :: ys) (e.trans e') ⟨e' _ _ Zad,h⟩
theorem Zpm {tn:Int} (h3:V[3]? = some (some (.int tn))) (q:∀ H' u ws,Ext H H'→H' u=some (.list (ws.map .int))→ws∈perms→Q (.ref u) H'):wpX g (.sub (.list (perms.map dispL)) (.bin .Mod (.var 3) (.lit (.int 6)))) V Q E H:=by
  rw [Zar,Zaw]
  refine Zt2 fun H' ys e h z hz=>?_
  rw [Zau,Zae,h3]
  show wpX g (.lit (.int 6)) V _ E _
  rw [Zah]
  refine ⟨by decide,?_⟩
  have hl:ys.length=6:=h.len
  have e1:=Ext.refl.new (o:=.list (ys.map .ref)) hz
  refine Zvg Zad (Za6 (by decide)) (by rw [List.length_map,hl];exact Zbe (by decide)) (by rw [List.length_map,hl];decide) fun v hv=>?_
  obtain ⟨u,hu,rfl⟩:=List.mem_map.mp hv
  obtain ⟨j,hj⟩:=List.mem_iff_getElem?.mp hu
  obtain ⟨w,hw,hyw⟩:=h.get hj
  exact q _ u w (e.trans e1) (e1 _ _ hyw) (List.mem_of_getElem? hw)
end
theorem Zhw {H:Zaa} {L:List AV} {us:List Addr} {ls:List (List Str)} {z c0:Addr} {r:List AV} (h:H z=some (.list (.ref c0 :: r))) (hi:Zc2 H us ls):Zc2 (up H z (.list L)) us ls:=hi.map fun {a l} p=>by
  rw [Zab]
  · exact p
  · intro e
    rw [e,h] at p
    cases l <;> cases p
theorem Zwq {H:Zaa} {u z c0:Addr} {r:List AV} {ws:List Int} (hu:H u=some (.list (ws.map .int))) (hz:H z=some (.list (.ref c0 :: r))):u≠z:=fun e=>by
  rw [e,hz] at hu
  cases ws <;> cases hu
theorem Zvd {ws:List Int} {k:Nat} {w v:Int} (h:ws[k]? = some w) (hv:v∈ws.take (k + 1)):v∈ws.take k∨v=w:=by
  rw [Za5 h] at hv
  exact (List.mem_append.mp hv).imp_right List.mem_singleton.mp
section
variable {c:Cx} (G:Gd c L12.P) {n:Nat} {Q:AV→Zaa→Prop} {E:String→Zaa→Prop} {H:Zaa} {b rl pu:Addr} {B:Bk} {pur:List Str} {rs:List (Str×List (Str×Int))} {tot:Int} {rts:List Addr}
theorem set3 {z w a0 a1 a2:Addr} {j:Nat} {Q:Zaa→Prop} (h:H z=some (.list [.ref a0,.ref a1,.ref a2])) (hj:j < 3) (q:Q (up H z (.list ([AV.ref a0,.ref a1,.ref a2].set j (.ref w))))):Zjr (.ref z) (.int j) (.ref w) Q H:=by
  unfold Zjr
  dsimp only
  rw [h]
  exact ⟨Int.natCast_nonneg j,Int.ofNat_lt.mpr hj,show 3 < 2 ^ 62 by decide,q⟩
include G
theorem Zo8 {tn:Int} (hb:H b=some (.book B)) (I:Inv pur rs B tot) (np:∀ s∈pur,isNm s=true) (hpu:H pu=some (.list (txs pur))) (hr:H rl=some (.list (rts.map .ref))) (hR:Zdg H rts B.pacts) (q:∀ H' t,Ext H H'→Sn H' t B pur→Q (.ref t) H'):CallOK c (n + 4) true "_law_seen" [.ref b,.ref pu,.ref rl,.int tn] Q E H:=by
  refine G.call (F:=L12.f__law_seen) rfl rfl ?_
  show wpSs _ _ _ _ _ [some (.ref b),some (.ref pu),some (.ref rl),some (.int tn),none,none] _
  refine w_st fun K nx=>?_
  dsimp only [Zaj,tv,List.length_cons,List.length_nil,Nat.reduceAdd,List.set_cons_succ,List.set_cons_zero,Zaw,Zac,Zaf]
  intro x0 hx0 x1 hx1 x2 hx2 z hz
  refine ⟨by decide,nx _ _ ?_⟩
  have E0:=((Ext.refl.new (o:=.list []) hx0).new (o:=.list []) hx1).new (o:=.list []) hx2
  have nz:H z=none:=E0.none hz
  have E1:=E0.new (o:=.list [.ref x0,.ref x1,.ref x2]) hz
  have n0:x0≠z:=Zc6 (Zfw (Zfw Zad hx1) hx2) hz
  have n1:x1≠z:=Zc6 (Zfw Zad hx2) hz
  have n2:x2≠z:=Zc6 Zad hz
  have hz1:up (up (up (up H x0 (.list [])) x1 (.list [])) x2 (.list [])) z (.list [.ref x0,.ref x1,.ref x2]) z=some (.list [.ref x0,.ref x1,.ref x2]):=Zad
  generalize up (up (up (up H x0 (.list [])) x1 (.list [])) x2 (.list [])) z (.list [.ref x0,.ref x1,.ref x2])=H1 at E1 hz1
  clear hx0 hx1 hx2 hz E0
  refine w_st fun K nx=>?_
  dsimp only [Zbd]
  refine ⟨rfl,?_⟩
  refine Zpm rfl fun H2 u ws e0 hu hp=>?_
  have hws:ws.length=3∧0∈ws∧1∈ws∧2∈ws∧∀ w∈ws,w=0∨w=1∨w=2:=by revert hp;clear hu;revert ws;decide
  refine Zd0 (xs:=ws.map .int) (by simp only [Zas,hu]) (Sl H (some (.ref b)) (some (.ref pu)) (some (.ref rl)) (some (.int tn)) z u pur B ws) ⟨_,x0,x1,x2,rfl,E1.trans e0,e0 _ _ hz1,hu,(fun h=>by cases h),(fun h=>by cases h),(fun h=>by cases h),n0,n1,n2⟩ ?_
  rintro J hJ k V' H' ⟨p5,a0,a1,a2,rfl,hE,hz',hu',h0,h1,h2,m0,m1,m2⟩
  refine ⟨hu'.trans hu.symm,fun hk=>?_,fun y hy=>?_⟩
  · rw [List.length_map] at hk
    rw [hk,List.take_length] at h0 h1 h2
    obtain ⟨us,h1a,h1b⟩:=h1 hws.2.2.1
    refine nx _ _ ?_
    dsimp only [Zax,Zb0,Zbt,Zbc,Zac,Zaf,Zar,Zah,Zae,List.getElem?_cons_succ,v_0]
    refine Zex (j:=0) hz' rfl (show 3≤1000 by decide) ?_
    refine Zex (j:=1) hz' rfl (show 3≤1000 by decide) ?_
    refine Zex (j:=2) hz' rfl (show 3≤1000 by decide) ?_
    intro t ht
    have Et:=Ext.refl.new (o:=.tuple [.ref a0,.ref a1,.ref a2]) ht
    exact q _ t (hE.trans Et) ⟨a0,a1,a2,us,Zad,Et _ _ (h0 hws.2.1),Et _ _ h1a,Zcd h1b Et,Et _ _ (h2 hws.2.2.2.1)⟩
  rw [List.getElem?_map,Option.map_eq_some_iff] at hy
  obtain ⟨w,hw,rfl⟩:=hy
  have hwm:∀ v∈ws.take (k + 1),v∈ws.take k∨v=w:=fun v hv=>Zvd hw hv
  have uz:u≠z:=Zwq hu' hz'
  have own:∀ {H'':Zaa} {L:List AV},Ext H' H''→(∀ a x,a≠z→H' a=some x→up H'' z (.list L) a=some x):=fun e a x ha hx=>by rw [Zab ha];exact e _ _ hx
  refine ⟨show 5 < 6 by decide,?_⟩
  refine w_st fun K2 nx2=>?_
  dsimp only [Zay]
  dsimp only [List.set_cons_succ,List.set_cons_zero,Zap,Zah,Zae,List.getElem?_cons_succ,v_0,c_eq,Zai,beq_iff_eq]
  rcases hws.2.2.2.2 w (List.mem_of_getElem? hw) with rfl | rfl | rfl
  · rw [if_pos (by decide)]
    dsimp only [Zax,Zaj,Zb0]
    refine Zq4 (n:=n) G (hE _ _ hb) I np (hE _ _ hpu) rfl rfl rfl fun H3 a3 E3 ha3 h3=>?_
    have az:a3≠z:=(Zc6 hz' ha3).symm
    refine set3 (j:=0) (E3 _ _ hz') (by decide) (nx2 _ _ (hJ _ _ _ ⟨_,a3,a1,a2,rfl,(hE.trans E3).own nz,Zad,own E3 _ _ uz hu',(fun _=>by rw [Zab az];exact h3),(fun h=>?_),(fun h=>?_),az,m1,m2⟩))
    · obtain ⟨us,p1,p2⟩:=h1 ((hwm 1 h).resolve_right (by decide))
      exact ⟨us,own E3 _ _ m1 p1,Zhw (E3 _ _ hz') (Zcd p2 E3)⟩
    · exact own E3 _ _ m2 (h2 ((hwm 2 h).resolve_right (by decide)))
  · rw [if_neg (by decide)]
    dsimp only [Zax,Zay,Zb0]
    dsimp only [Zap,Zah,Zae,List.getElem?_cons_succ,v_0,c_eq,Int.reduceBEq,Zai,↓dreduceIte]
    dsimp only [Zax,Zaj,Zb0]
    refine Ztj (n:=n) G (hE _ _ hb) I (hE _ _ hr) (Zem hR hE) rfl rfl rfl fun H3 a3 us E3 ha3 h3 h3b=>?_
    have az:a3≠z:=(Zc6 hz' ha3).symm
    refine set3 (j:=1) (E3 _ _ hz') (by decide) (nx2 _ _ (hJ _ _ _ ⟨_,a0,a3,a2,rfl,(hE.trans E3).own nz,Zad,own E3 _ _ uz hu',(fun h=>?_),(fun _=>⟨us,by rw [Zab az];exact h3,Zhw (E3 _ _ hz') h3b⟩),(fun h=>?_),m0,az,m2⟩))
    · exact own E3 _ _ m0 (h0 ((hwm 0 h).resolve_right (by decide)))
    · exact own E3 _ _ m2 (h2 ((hwm 2 h).resolve_right (by decide)))
  · rw [if_neg (by decide)]
    dsimp only [Zax,Zay,Zb0]
    dsimp only [Zap,Zah,Zae,List.getElem?_cons_succ,v_0,c_eq,Int.reduceBEq,Zai,Bool.false_eq_true,↓dreduceIte]
    dsimp only [Zax,Zaj,Zb0]
    refine Zvk (n:=n) G (hE _ _ hb) I (hE _ _ hr) (Zem hR hE) rfl rfl rfl fun H3 a3 E3 ha3 h3=>?_
    have az:a3≠z:=(Zc6 hz' ha3).symm
    refine set3 (j:=2) (E3 _ _ hz') (by decide) (nx2 _ _ (hJ _ _ _ ⟨_,a0,a1,a3,rfl,(hE.trans E3).own nz,Zad,own E3 _ _ uz hu',(fun h=>?_),(fun h=>?_),(fun _=>by rw [Zab az];exact h3),m0,m1,az⟩))
    · exact own E3 _ _ m0 (h0 ((hwm 0 h).resolve_right (by decide)))
    · obtain ⟨us,p1,p2⟩:=h1 ((hwm 1 h).resolve_right (by decide))
      exact ⟨us,own E3 _ _ m1 p1,Zhw (E3 _ _ hz') (Zcd p2 E3)⟩
end
end Mine
end
section
open PySem PySem.W PyProof.Rows PySem.Spec PySem.SeqAt PySem.Calls
namespace Mine
open L12
abbrev FrAt (H:Zaa) (a:Addr) (pur:List Str) (F:Str→Int):Prop:=H a=some (.list (pur.map fun p=>.int (F p)))
section
variable {H:Zaa} {pur:List Str} {F:Str→Int} {Q:AV→Zaa→Prop} {E:String→Zaa→Prop} {k:Str} {pu fl:Addr}
theorem Ztt {l:List Str} (h:k∈l):∃ i,(l.map PyData.str).findIdx? (fun y=>PyData.eqv y (.str k))=some i∧l[i]? = some k:=by
  induction l with
  | nil=>cases h
  | cons s l ih =>
    rw [List.map_cons,List.findIdx?_cons]
    by_cases e:s=k
    · rw [e,show PyData.eqv (.str k) (.str k)=true from beq_self_eq_true k];exact ⟨0,rfl,rfl⟩
    · rw [show PyData.eqv (.str s) (.str k)=false from beq_eq_false_iff_ne.mpr e]
      obtain ⟨i,h1,h2⟩:=ih ((List.mem_cons.mp h).resolve_left fun z=>e z.symm)
      exact ⟨i + 1,by rw [h1];rfl,h2⟩
theorem Zqv (hpu:H pu=some (.list (txs pur))) (hl:pur.length≤100) (hk:k∈pur) (q:∀ i:Nat,pur[i]? = some k→Q (.int i) H):wbm (.ref pu) .index [.str k] Q H:=by
  obtain ⟨i,h1,h2⟩:=Ztt hk
  dsimp only [Zyy];rw [hpu]
  exact ⟨by rw [Zan];exact Nat.lt_of_le_of_lt hl (by decide),.str k,pur.map .str,.str k,Zif,Zut,Zg1,i,h1,q i h2⟩
theorem Zvn {i:Nat} {a:Int} (nd:pur.Nodup) (hi:pur[i]? = some k):(pur.map fun p=>AV.int (F p)).set i (.int (F k + a))=pur.map fun p=>.int (F p + if k=p then a else 0):=by
  induction pur generalizing i with
  | nil=>rfl
  | cons s l ih =>
    obtain ⟨n1,n2⟩:=List.nodup_cons.mp nd
    cases i with
    | zero =>
      cases hi
      show AV.int (F k + a) :: _=AV.int (F k + if k=k then a else 0) :: _
      rw [if_pos rfl]
      refine congrArg _ (List.map_congr_left fun p hp=>?_)
      rw [if_neg (fun e:k=p=>n1 (e ▸ hp)),Int.add_zero]
    | succ i =>
      show AV.int (F s) :: ((l.map _).set i _)=AV.int (F s + if k=s then a else 0) :: _
      rw [ih n2 hi,if_neg (fun e=>n1 (by rw [← e];exact List.mem_of_getElem? hi)),Int.add_zero]
theorem Zq3 {i:Nat} (hf:FrAt H fl pur F) (hl:pur.length≤100) (hi:pur[i]? = some k) (q:Q (.int (F k)) H):wsub (.ref fl) (.int i) Q H :=
  Zex hf (by rw [List.getElem?_map,hi];rfl) (by rw [List.length_map];exact Nat.le_trans hl (by decide)) q
theorem Zo7 {i:Nat} {a:Int} {Q:Zaa→Prop} (nd:pur.Nodup) (hf:FrAt H fl pur F) (hl:pur.length≤100) (hi:pur[i]? = some k) (q:∀ H',Kb fl H H'→FrAt H' fl pur (fun p=>F p + if k=p then a else 0)→Q H'):Zjr (.ref fl) (.int i) (.int (F k + a)) Q H:=by
  unfold Zjr
  dsimp only
  rw [hf]
  have hlt:=(List.getElem?_eq_some_iff.mp hi).1
  refine ⟨Int.natCast_nonneg i,by rw [List.length_map];exact Int.ofNat_lt.mpr hlt,by rw [List.length_map];exact Nat.lt_of_le_of_lt hl (by decide),q _ .up ?_⟩
  rw [Int.toNat_natCast,Zvn nd hi]
  exact Zad
theorem Zu6 {g:Gx} {v0 v1 v2 v3 v4:Option AV} {a:Int} {K:VV→Zaa→Prop} {QR:AV→Zaa→Prop} {EE:String→VV→Zaa→Prop} (nd:pur.Nodup) (hl:pur.length≤100) (hpu:H pu=some (.list (txs pur))) (hf:FrAt H fl pur F) (hk:k∈pur)
    (q:∀ H',Kb fl H H'→FrAt H' fl pur (fun p=>F p + if k=p then a else 0)→K [v0,v1,v2,v3,v4,some (.ref fl),some (.ref pu),some (.str k),some (.int a)] H') :
    wpS g (.assign (.sub (.var 5) (.bm (.var 6) .index [(.var 7)])) (.bin .Add (.sub (.var 5) (.bm (.var 6) .index [(.var 7)])) (.var 8))) K QR EE [v0,v1,v2,v3,v4,some (.ref fl),some (.ref pu),some (.str k),some (.int a)] H:=by
  have hb:bmOn .index (.ref pu) H:=by
    show match H pu with | some (.list _)=>_ | some (.dict _ _)=>_ | _=>False
    rw [hpu]
    first | exact .inl rfl | exact .inr (.inl rfl) | exact .inr (.inr (.inl rfl)) | exact .inr (.inr (.inr rfl))
  dsimp only [Zaj,Zau,Zae,List.getElem?_cons_succ,v_0,Zar,x_bm,Zac,Zaf]
  refine ⟨hb,Zqv hpu hl hk fun i hi=>Zq3 hf hl hi ?_⟩
  dsimp only [Zb5]
  unfold wpT
  dsimp only
  dsimp only [x_bm,Zac,Zaf,Zae,List.getElem?_cons_succ,v_0]
  exact ⟨hb,Zqv hpu hl hk fun i hi=>Zo7 nd hf hl hi q⟩
end
end Mine
end
section
open PySem PySem.W PyProof.Rows PySem.Spec PySem.SeqAt PySem.Calls
namespace Mine
open L12
inductive Fp (H:Zaa) (v0 v1 v2 v3 v4 v5 v6:Option AV) (fl:Addr) (pur:List Str) (F:Nat→Str→Int) (k:Nat) (V':VV) (H':Zaa):Prop
  | mk (p7 p8:Option AV) (hV:V'=[v0,v1,v2,v3,v4,v5,v6,p7,p8]) (hE:Kb fl H H') (hf:FrAt H' fl pur (F k))
section
variable {c:Cx} (G:Gd c L12.P) {n:Nat} {Q:AV→Zaa→Prop} {E:String→Zaa→Prop} {H:Zaa} {pur:List Str} {pu fl pl:Addr} {l:List (Str×Int)}
theorem Zhx {g:Gx} {F:Nat→Str→Int} {body:List S} {v0 v1 v2 v3 v4 v5 v6 p7 p8:Option AV} {QN:VV→Zaa→Prop} {QR:AV→Zaa→Prop} {EE:String→VV→Zaa→Prop} (hz:PL H pl l) (hn:pl≠fl) (hf:FrAt H fl pur (F 0))
    (hs:∀ (k:Nat) (e:Str×Int) H' (J:VV→Zaa→Prop),l[k]? = some e→Kb fl H H'→FrAt H' fl pur (F k)→(∀ H'',Kb fl H H''→FrAt H'' fl pur (F (k + 1))→J [v0,v1,v2,v3,v4,v5,v6,some (.str e.1),some (.int e.2)] H'')→wpSs g body J QR EE [v0,v1,v2,v3,v4,v5,v6,some (.str e.1),some (.int e.2)] H')
    (q:∀ p7 p8 H',Kb fl H H'→FrAt H' fl pur (F l.length)→QN [v0,v1,v2,v3,v4,v5,v6,p7,p8] H') :
    WFor QN (fun x nx V H=>wtg (.tup [7,8]) x V H fun V=>wpSs g body nx QR EE V H) (.ref pl) [v0,v1,v2,v3,v4,v5,v6,p7,p8] H:=by
  obtain ⟨ts,hz,hp⟩:=hz
  have hlen:ts.length=l.length:=by rw [Zb9 hp,Zek]
  refine Zd0 (xs:=ts.map .ref) (by simp only [Zas,hz]) (Fp H v0 v1 v2 v3 v4 v5 v6 fl pur F) ⟨_,_,rfl,.refl,hf⟩ ?_
  rintro J hJ k V' H' ⟨p7,p8,rfl,hE,hf'⟩
  refine ⟨(hE _ _ hn hz).trans hz.symm,fun hk=>?_,fun y hy=>?_⟩
  · rw [List.length_map,hlen] at hk
    rw [hk] at hf'
    exact q _ _ _ hE hf'
  rw [List.getElem?_map,Option.map_eq_some_iff] at hy
  obtain ⟨t,ht,rfl⟩:=hy
  obtain ⟨e,he,_,htt,k1,k2⟩:=Zdb hp ht
  unfold P2 at he
  rw [List.getElem?_map,Option.map_eq_some_iff] at he
  obtain ⟨e,he,rfl⟩:=he
  have tf:t≠fl:=fun z=>by rw [z,show H fl=_ from hf] at htt;cases htt
  show Zb4 2 (.ref t) H' _
  unfold Zb4
  dsimp only
  rw [hE _ _ tf htt]
  refine ⟨rfl,?_⟩
  exact hs k e H' _ he hE hf' fun H'' h1 h2=>hJ _ _ _ ⟨_,_,rfl,h1,h2⟩
theorem Zsc {k:Nat} {e:Str×Int} {s:Str} (h:l[k]? = some e):sAt (l.take (k + 1)) s=sAt (l.take k) s + if e.1=s then e.2 else 0:=by
  rw [Za5 h]
  unfold sAt
  rw [List.map_append,List.sum_append]
  show _ + ((if e.1=s then e.2 else 0) + 0)=_
  rw [Int.add_zero]
theorem Zju {p:Str×Int→Bool} {k:Nat} {e:Str×Int} {s:Str} (h:l[k]? = some e):sAt ((l.take (k + 1)).filter p) s=sAt ((l.take k).filter p) s + if p e=true then (if e.1=s then e.2 else 0) else 0:=by
  rw [Za5 h,List.filter_append,List.filter_cons]
  unfold sAt
  rw [List.map_append,List.sum_append]
  by_cases hp:p e=true
  · rw [if_pos hp,if_pos hp]
    show _ + ((if e.1=s then e.2 else 0) + 0)=_
    rw [Int.add_zero]
  · rw [if_neg hp,if_neg hp];rfl
theorem Zbr {a:Addr} {F F':Str→Int} (h:FrAt H a pur F) (e:∀ s,F s=F' s):FrAt H a pur F':=by
  rw [show F'=F from funext fun s=>(e s).symm];exact h
include G
theorem Ztu {H0:Zaa} {t u:Addr} {x:Pc} {st:Sta} {w:Int} {F:Str→Int} {ns:List Str} {last:Int} (e0:Ext H0 H) (h0:H0 fl=none) (nd:pur.Nodup) (hl:pur.length≤100) (hpu:H0 pu=some (.list (txs pur))) (p:PcOK pur x) (hr:Rw H0 t x.name x.parts x.gains ns last) (hu:H0 u=some (.list (txs (Zat x)))) (hf:FrAt H fl pur F)
    (hw:11≤w∧st = .fln∨(w=7∨w=8)∧st = .dn∧Zet x=true)
    (q:∀ H',Kb fl H H'→FrAt H' fl pur (fun s=>F s + sAt (back x st) s)→Q (.bool true) H'):CallOK c (n + 1) true "_law_ended" [.ref t,.ref u,.int w,.str (Sta.opn).str,.str st.str,.ref fl,.ref pu] Q E H:=by
  refine G.call (F:=L12.f__law_ended) rfl rfl ?_
  show wpSs _ _ _ _ _ [some (.ref t),some (.ref u),some (.int w),some (.str (Sta.opn).str),some (.str st.str),some (.ref fl),some (.ref pu),none,none] _
  obtain ⟨pl,gl,nl,ht,hp,hg,hn⟩:=hr
  obtain ⟨tp,hp1,hp2⟩:=hp
  obtain ⟨tg,hg1,hg2⟩:=hg
  have npl:pl≠fl:=Zc6 hp1 h0
  have ngl:gl≠fl:=Zc6 hg1 h0
  have npu:pu≠fl:=Zc6 hpu h0
  have nu:u≠fl:=Zc6 hu h0
  have hp:PL H pl x.parts:=(PL.mk tp hp1 hp2).ext e0
  have hg:PL H gl x.gains:=(PL.mk tg hg1 hg2).ext e0
  have hpu:=e0 _ _ hpu
  have hu:=e0 _ _ hu
  have ht:=e0 _ _ ht
  clear hp1 hp2 hg1 hg2 hn e0 h0
  refine w_st fun K nx=>?_
  dsimp only [Zay]
  rcases hw with ⟨hw,rfl⟩ | ⟨hw,rfl,hfu⟩
  · dsimp only [x_ao,Zaz,Zba,Zap,Zdm,Zaw,Zac,Zaf,Zah,Zae,List.getElem?_cons_succ,v_0,Zcf,Zai,beq_iff_eq,c_lt,decide_eq_true_eq,decide_eq_false_iff_not,Int.not_lt,beq_eq_false_iff_ne,ne_eq,Zdn,bne_iff_ne,bne_eq_false_iff_eq]
    refine Eq.mpr (if_pos (by decide)) ?_
    refine Eq.mpr (if_pos (by decide)) ?_
    refine Eq.mpr (if_pos (decide_eq_false (by lia))) ?_
    refine Eq.mpr (if_neg (by decide)) ?_
    refine Eq.mpr (if_neg (by decide)) ?_
    dsimp only [Zb0]
    refine nx _ _ ?_
    refine w_st fun K nx=>?_
    dsimp only [Zay]
    dsimp only [Zap,Zah,Zae,List.getElem?_cons_succ,v_0,Zcf,Zai,beq_iff_eq]
    refine Eq.mpr (if_pos (by decide)) ?_
    rw [Zax,Zbd]
    refine ⟨rfl,?_⟩
    refine row5 (j:=1) rfl ht (show 5≤1000 by decide) rfl ?_
    refine Zhx (F:=fun k s=>F s + sAt ((x.parts.take k).filter fun e=>decide (e.1∈x.inside)) s) hp npl (Zbr hf fun s=>(Int.add_zero _).symm) (fun k e H' J he hE hf' hJ=>?_) fun p7 p8 H' hE hf'=>?_
    · have hem:=List.mem_of_getElem? he
      have hmem:e.1∈Zat x ↔ e.1∈x.inside:=by rw [Ze3];exact ⟨fun h=>h.2,fun h=>⟨List.mem_map.mpr ⟨e,hem,rfl⟩,h⟩⟩
      dsimp only [Zax,Zay,Zb0]
      dsimp only [Zap,c_in,Zae,List.getElem?_cons_succ,v_0]
      refine Zi2 (no:=false) (hE _ _ nu hu) ?_
      dsimp only [Zai]
      by_cases hi:e.1∈x.inside
      · rw [decide_eq_true (hmem.mpr hi)]
        refine Eq.mpr (if_pos (by decide)) ?_
        refine Zu6 nd hl (hE _ _ npu hpu) hf' (p.pm e hem).1 fun H'' h1 h2=>hJ _ (hE.trans h1) (Zbr h2 fun s=>?_)
        rw [Zju he,if_pos (decide_eq_true hi),Int.add_assoc]
      · rw [decide_eq_false fun z=>hi (hmem.mp z)]
        refine Eq.mpr (if_neg (by decide)) ?_
        refine hJ _ hE (Zbr hf' fun s=>?_)
        rw [Zju he,if_neg (fun z=>hi (of_decide_eq_true z)),Int.add_zero]
    · dsimp only [Zax,Zbt,Zah]
      refine q H' hE (Zbr hf' fun s=>?_)
      rw [List.take_length];rfl
  · dsimp only [x_ao,Zaz,Zba,Zap,Zdm,Zaw,Zac,Zaf,Zah,Zae,List.getElem?_cons_succ,v_0,Zcf,Zai,beq_iff_eq,c_lt,decide_eq_true_eq,decide_eq_false_iff_not,Int.not_lt,beq_eq_false_iff_ne,ne_eq,Zdn,bne_iff_ne,bne_eq_false_iff_eq]
    refine Eq.mpr (if_pos (by decide)) ?_
    refine Eq.mpr (if_neg (by decide)) ?_
    refine Eq.mpr (if_pos (by decide)) ?_
    refine Eq.mpr (if_pos (by decide)) ?_
    intro a ha
    have Ea:=Ext.refl.new (o:=.list [.int 7,.int 8]) ha
    have naf:a≠fl:=(Zc6 (show H fl=_ from hf) ha).symm
    have hin:∀ {Q':AV→Zaa→Prop},Q' (.bool false) (up H a (.list [.int 7,.int 8]))→win true (.int w) (.ref a) Q' (up H a (.list [.int 7,.int 8])):=fun {Q'} h=>by
      dsimp only [Zfr];rw [Zad]
      rcases hw with rfl | rfl
      · exact ⟨.int 7,[.int 7,.int 8],.int 7,.cons (.int 7) (.cons (.int 8) .nil),⟨rfl,by decide⟩,rfl,h⟩
      · exact ⟨.int 8,[.int 7,.int 8],.int 8,.cons (.int 7) (.cons (.int 8) .nil),⟨rfl,by decide⟩,rfl,h⟩
    refine hin ?_
    dsimp only [Zai]
    refine Eq.mpr (if_neg Bool.false_ne_true) ?_
    dsimp only [Zb0]
    refine nx _ _ ?_
    have hf1:FrAt (up H a (.list [.int 7,.int 8])) fl pur F:=Ea _ _ hf
    generalize up H a (.list [.int 7,.int 8])=H1 at Ea hf1
    refine w_st fun K nx=>?_
    dsimp only [Zay]
    dsimp only [Zap,Zah,Zae,List.getElem?_cons_succ,v_0,Zcf,Zai,beq_iff_eq]
    refine Eq.mpr (if_neg (by decide)) ?_
    refine nx _ _ ?_
    refine w_st fun K nx=>?_
    dsimp only [Zbd]
    refine ⟨rfl,?_⟩
    refine row5 (j:=1) rfl (Ea _ _ ht) (show 5≤1000 by decide) rfl ?_
    have hfull:=p.full hfu
    refine Zhx (F:=fun _=>F) (hp.ext Ea) npl hf1 (fun k e H' J he hE hf' hJ=>?_) fun p7 p8 H2 hE2 hf2=>?_
    · have hem:=List.mem_of_getElem? he
      have hi:e.1∈Zat x:=by
        rw [Ze3]
        refine ⟨List.mem_map.mpr ⟨e,hem,rfl⟩,?_⟩
        rw [← hfull] at hem
        exact of_decide_eq_true (List.mem_filter.mp hem).2
      dsimp only [Zax,Zay,Zb0]
      dsimp only [Zap,Zdm,Zae,List.getElem?_cons_succ,v_0]
      refine Zi2 (no:=true) (hE _ _ nu (Ea _ _ hu)) ?_
      dsimp only [Zai]
      rw [decide_eq_true hi]
      refine Eq.mpr (if_neg (by decide)) ?_
      exact hJ _ hE hf'
    refine nx _ _ ?_
    refine w_st fun K nx=>?_
    dsimp only [Zbd]
    refine ⟨rfl,?_⟩
    have ntf:t≠fl:=fun z=>by rw [z,show H fl=_ from hf] at ht;cases ht
    refine row5 (j:=2) rfl (hE2 _ _ ntf (Ea _ _ ht)) (show 5≤1000 by decide) rfl ?_
    have hg2:PL H2 gl x.gains:=by
      obtain ⟨tg,h1,h2⟩:=hg.ext Ea
      exact ⟨tg,hE2 _ _ ngl h1,h2.keep fun a v h=>hE2 _ _ (fun z=>by rw [z,show H1 fl=_ from hf1] at h;cases h) h⟩
    refine Zhx (F:=fun k s=>F s + sAt (x.gains.take k) s) hg2 ngl (Zbr hf2 fun s=>(Int.add_zero _).symm) (fun k e H' J he hE hf' hJ=>?_) fun p7 p8 H3 hE3 hf3=>?_
    · dsimp only [Zax,Zb0]
      refine Zu6 nd hl (hE _ _ npu (hE2 _ _ npu (Ea _ _ hpu))) hf' (p.gm e (List.mem_of_getElem? he)).1 fun H'' h1 h2=>hJ _ (hE.trans h1) (Zbr h2 fun s=>?_)
      rw [Zsc he,Int.add_assoc]
    refine nx _ _ ?_
    dsimp only [Zax,Zbt]
    dsimp only [Zap,Zah,Zae,List.getElem?_cons_succ,v_0,Zcf]
    refine q H3 ((Kb.ext Ea).trans (hE2.trans hE3)) (Zbr hf3 fun s=>?_)
    rw [List.take_length];rfl
end
end Mine
end
section
open PySem PySem.W PyProof.Rows PySem.Spec PySem.SeqAt PySem.Calls
namespace Mine
open L12
inductive Due (H0 H:Zaa) (d:Addr) (pur:List Str) (F:Str→Int) (ls:List (List Str)):Prop
  | mk (fl il:Addr) (us:List Addr) (hd:H d=some (.tuple [.ref fl,.ref il])) (nf:H0 fl=none) (ni:H0 il=none) (hf:FrAt H fl pur F) (hi:H il=some (.list (us.map .ref))) (hu:Zc2 H us ls) (nu:us.Nodup) (n0:∀ u∈us,H0 u=none)
section
variable {Q:AV→Zaa→Prop} {E:String→Zaa→Prop} {H:Zaa}
theorem All2.getR {α β:Type} {p:α→β→Prop} {as:List α} {bs:List β} (h:All2 p as bs) {j:Nat} {b:β}:bs[j]? = some b→∃ a,as[j]? = some a∧p a b :=
  h.ind (C:=fun as bs=>∀ j,bs[j]? = some b→∃ a,as[j]? = some a∧p a b) (fun j e=>by cases e) (fun a' b as bs h ih j=>by
    cases j with
    | zero=>exact fun e=>by cases e;exact ⟨a',rfl,h⟩
    | succ j=>exact ih j) j
theorem Zmz {H:Zaa} {us:List Addr} {ls:List (List Str)} (h:Zc2 H us ls) {u:Addr} (hu:u∈us):∃ l,H u=some (.list (txs l)):=by
  obtain ⟨j,hj,rfl⟩:=List.mem_iff_getElem.mp hu
  obtain ⟨l,_,h2⟩:=h.get (List.getElem?_eq_getElem hj)
  exact ⟨l,h2⟩
theorem Zkx {g:Gx} {V:VV} {m:Nat} {src:X} {i:Addr} {us:List Addr} {ls:List (List Str)} (hmd:g.md=true) (hm:V.length=m) (hsrc:∀ Q':AV→Zaa→Prop,Q' (.ref i) H→wpX g src V Q' E H) (hi:H i=some (.list (us.map .ref))) (hu:Zc2 H us ls) (hl:us.length≤100) (hls:∀ l∈ls,l.length≤1000)
    (q:∀ H' z vs,Ext H H'→H z=none→H' z=some (.list (vs.map .ref))→Zc2 H' vs ls→vs.Nodup→(∀ v∈vs,H v=none)→Q (.ref z) H'):wpX g (.comp (.prim .list [.var m]) 1 false src none) V Q E H:=by
  dsimp only [Za8]
  refine ⟨hmd,?_⟩
  refine hsrc _ ?_
  show Zk7 _ _ (.ref i) _
  refine ⟨us.map .ref,by simp only [Zas,hi],by rw [List.length_map];exact Nat.le_trans hl (by decide),fun k acc H'=>Ext H H'∧∃ vs:List Addr,acc=vs.map .ref∧Zc2 H' vs (ls.take k)∧vs.Nodup∧∀ v∈vs,H v=none,⟨.refl,[],rfl,trivial,List.nodup_nil,fun v hv=>by cases hv⟩,?_⟩
  rintro k acc H' ⟨hE,vs,rfl,hv,nd,nv⟩
  refine ⟨(hE _ _ hi).trans hi.symm,fun hk a ha=>?_,fun y hy=>?_⟩
  · rw [hk,List.length_map,hu.len,List.take_length] at hv
    exact q _ a vs (hE.new ha) (hE.none ha) Zad (Zcd hv (Ext.refl.new ha)) nd nv
  rw [List.getElem?_map,Option.map_eq_some_iff] at hy
  obtain ⟨u,hu1,rfl⟩:=hy
  obtain ⟨l,hl1,hl2⟩:=hu.get hu1
  (refine Eq.mpr (if_neg Bool.false_ne_true) ?_;dsimp only [Zbj];refine Eq.mpr (if_pos rfl) ?_)
  dsimp only [Zak,Zac,Zae];rw [List.getElem?_append_right (by rw [hm];exact Nat.le_refl _),hm,Nat.sub_self]
  show wpXs _ [] _ _ _ _
  rw [Zaf]
  refine Zf1 (hE _ _ hl2) (hls l (List.mem_of_getElem? hl1)) fun z hz=>?_
  have E2:=Ext.refl.new (o:=.list (txs l)) hz
  refine ⟨hE.trans E2,vs ++ [z],by rw [List.map_append];rfl,?_,?_,fun v hv'=>?_⟩
  · rw [Za5 hl1];exact (Zcd hv E2).snoc Zad
  · refine List.nodup_append.mpr ⟨nd,List.nodup_cons.mpr ⟨List.not_mem_nil,List.nodup_nil⟩,fun a ha b hb e=>?_⟩
    obtain ⟨l',h'⟩:=Zmz hv ha
    rw [e,List.mem_singleton.mp hb,hz] at h';cases h'
  · rcases List.mem_append.mp hv' with h | h
    · exact nv v h
    · rw [List.mem_singleton.mp h];exact hE.none hz
end
end Mine
end
section
open PySem PySem.W PyProof.Rows PySem.Spec PySem.SeqAt PySem.Calls
namespace Mine
open L12
section
variable {Q:AV→Zaa→Prop} {E:String→Zaa→Prop} {H:Zaa} {k:Str}
noncomputable def fE (H:Zaa) (s:Str):AV→Option AV
  | .ref t=>(match H t with
    | some (.tuple [.str k,w])=>if k=s then some w else none
    | _=>none)
  | _=>none
theorem Zu4 {t:Addr} {k s:Str} {w:AV} (h:H t=some (.tuple [.str k,w])):fE H s (.ref t)=if k=s then some w else none:=by
  show (match H t with | some (.tuple [.str k,w])=>if k=s then some w else none | _=>none)=_
  rw [h]
theorem Zzp {s:Str} {ts:List Addr} {l:List (Str×Int)} (h:pairsH H ts (P2 l)):∃ ns:List Int,(ts.map AV.ref).filterMap (fE H s)=ns.map .int∧ns.sum=sAt l s:=by
  induction l generalizing ts with
  | nil=>cases ts with
    | nil=>exact ⟨[],rfl,rfl⟩
    | cons=>exact h.elim
  | cons e l ih =>
    cases ts with
    | nil=>exact h.elim
    | cons t ts =>
    obtain ⟨ns,h1,h2⟩:=ih h.2
    rw [List.map_cons,List.filterMap_cons,Zu4 h.1.2.1,Zgt]
    by_cases e1:e.1=s
    · rw [if_pos e1,if_pos e1,← h2]
      exact ⟨e.2 :: ns,by rw [h1];rfl,rfl⟩
    · rw [if_neg e1,if_neg e1,Int.zero_add]
      exact ⟨ns,h1,h2⟩
noncomputable def fG (H:Zaa) (p:Str→Bool):AV→Option AV
  | .ref t=>(match H t with
    | some (.tuple [.str k,w])=>if p k=true then some (.str k) else none
    | _=>none)
  | _=>none
theorem Zu3 {t:Addr} {k:Str} {p:Str→Bool} {w:AV} (h:H t=some (.tuple [.str k,w])):fG H p (.ref t)=if p k=true then some (.str k) else none:=by
  show (match H t with | some (.tuple [.str k,w])=>if p k=true then some (AV.str k) else none | _=>none)=_
  rw [h]
theorem Zzo {p:Str→Bool} {ts:List Addr} {l:List (Str×Int)} (h:pairsH H ts (P2 l)):(ts.map AV.ref).filterMap (fG H p)=txs ((l.filter fun e=>p e.1).map (·.1)):=by
  induction l generalizing ts with
  | nil=>cases ts with
    | nil=>rfl
    | cons=>exact h.elim
  | cons e l ih =>
    cases ts with
    | nil=>exact h.elim
    | cons t ts =>
    rw [List.map_cons,List.filterMap_cons,Zu3 h.1.2.1,List.filter_cons,ih h.2]
    by_cases e1:p e.1=true
    · rw [if_pos e1,if_pos e1];rfl
    · rw [if_neg e1,if_neg e1]
theorem Zj7 {g:Gx} {V:VV} {src cnd elt:X} {pl:Addr} {l:List (Str×Int)} (f:AV→Option AV) (hmd:g.md=true) (hsrc:∀ Q':AV→Zaa→Prop,Q' (.ref pl) H→wpX g src V Q' E H) (hz:PL H pl l) (hl:l.length≤1000)
    (hs:∀ (t:Addr) (e:Str×Int) (nx:Option AV→Zaa→Prop),e∈l→H t=some (.tuple [.str e.1,.int e.2])→nx (f (.ref t)) H→wpC g (some cnd) (V ++ [some (.str e.1),some (.int e.2)]) (fun b H=>if b=true then wpX g elt (V ++ [some (.str e.1),some (.int e.2)]) (fun v H=>nx (some v) H) (fun _ _=>False) H else nx none H) (fun _ _=>False) H)
    (q:∀ ts z,pairsH H ts (P2 l)→H z=none→Q (.ref z) (up H z (.list ((ts.map AV.ref).filterMap f)))):wpX g (.comp elt 2 true src (some cnd)) V Q E H:=by
  rw [Za8]
  refine ⟨hmd,hsrc _ ?_⟩
  obtain ⟨ts,hz,hp⟩:=hz
  refine Zel (xs:=ts.map .ref) (by simp only [Zas,hz]) (by rw [List.length_map,Zb9 hp,Zek];exact Nat.le_trans hl (by decide)) f (fun y hy nx hnx=>?_) fun z hz=>q ts z hp hz
  obtain ⟨t,ht,rfl⟩:=List.mem_map.mp hy
  obtain ⟨j,hj,rfl⟩:=List.mem_iff_getElem.mp ht
  obtain ⟨e,he,_,htt,k1,k2⟩:=Zdb hp (List.getElem?_eq_getElem hj)
  unfold P2 at he
  rw [List.getElem?_map,Option.map_eq_some_iff] at he
  obtain ⟨e,he,rfl⟩:=he
  rw [if_pos rfl]
  show Zb4 2 (.ref _) H _
  unfold Zb4
  dsimp only
  rw [htt]
  refine ⟨rfl,?_⟩
  exact hs _ e nx (List.mem_of_getElem? he) htt hnx
end
end Mine
end
section
open PySem PySem.W PyProof.Rows PySem.Spec PySem.SeqAt PySem.Calls
namespace Mine
open L12
section
variable {Q:AV→Zaa→Prop} {E:String→Zaa→Prop} {H:Zaa} {k nm:Str} {g:Gx} {w:Int} {rl t il pl ka:Addr} {rts us:List Addr} {i:Nat} {l:List (Str×Int)} {xs:List AV} {v0 v2 v3 v5 v6 v7 v8 v9 v11 v12:Option AV}
theorem Zpc {j:Nat} {u:AV} {v4:Option AV} (hr:H rl=some (.list (rts.map .ref))) (hl:rts.length≤100) (ht:rts[i]? = some t) (hx:H t=some (.tuple xs)) (hxl:xs.length≤1000) (hj:xs[j]? = some u) (q:Q u H) :
    wpX g (.sub (.sub (.var 1) (.var 10)) (.lit (.int j))) [v0,some (.ref rl),v2,v3,v4,v5,v6,v7,v8,v9,some (.int i),v11,v12] Q E H:=by
  dsimp only [Zar,Zah,Zae,List.getElem?_cons_succ,v_0]
  refine Zex hr (by rw [List.getElem?_map,ht];rfl) (by rw [List.length_map];exact Nat.le_trans hl (by decide)) ?_
  exact Zjx hx hj hxl q
theorem Zye (hmd:g.md=true) (hr:H rl=some (.list (rts.map .ref))) (hl:rts.length≤100) (ht:rts[i]? = some t) (hx:H t=some (.tuple xs)) (hxl:xs.length≤1000) (hj:xs[1]? = some (.ref pl)) (hp:PL H pl l) (hpl:l.length≤1000) (q:∀ H',Ext H H'→Q (.int (sAt l k)) H') :
    wpX g (.prim .sum [(.comp (.var 14) 2 true (.sub (.sub (.var 1) (.var 10)) (.lit (.int 1))) (some (.cmp .Eq (.var 13) (.var 4))))]) [v0,some (.ref rl),v2,v3,some (.str k),v5,v6,v7,v8,v9,some (.int i),v11,v12] Q E H:=by
  rw [Zak,Zac]
  refine Zj7 (fE H k) hmd (fun Q' h=>Zpc (j:=1) hr hl ht hx hxl hj h) hp hpl (fun t e nx he hte hnx=>?_) fun ts z hps hz=>?_
  · rw [Zu4 hte] at hnx
    rw [Zbn]
    dsimp only [List.cons_append,List.nil_append,Zae,List.getElem?_cons_succ,v_0,Zap,Zcf,Zai,beq_iff_eq]
    by_cases q:e.1=k
    · rw [if_pos q] at hnx
      refine Eq.mpr (if_pos (beq_iff_eq.mpr q)) hnx
    · rw [if_neg q] at hnx
      refine Eq.mpr (if_neg (fun z=>q (beq_iff_eq.mp z))) hnx
  · obtain ⟨ns,h1,h2⟩:=Zzp (s:=k) hps
    rw [Zaf,Zhn,hmd,Zad]
    refine ⟨rfl,ns,h1,?_⟩
    rw [h2]
    exact q _ (Ext.refl.new hz)
theorem Zwn {ls:List Str} {u:Addr} (hmd:g.md=true) (hi:H il=some (.list (us.map .ref))) (hl:us.length≤100) (hu:us[i]? = some u) (hx:H u=some (.list (txs ls))) (hxl:ls.length≤1000) (q:∀ H' z,Ext H H'→H z=none→H' z=some (.list (txs (ls.filter (·≠k))))→Q (.ref z) H') :
    wpX g (.comp (.var 13) 1 false (.sub (.var 9) (.var 10)) (some (.cmp .NotEq (.var 13) (.var 4)))) [v0,some (.ref rl),v2,v3,some (.str k),v5,v6,v7,v8,some (.ref il),some (.int i),v11,v12] Q E H:=by
  rw [Za8]
  refine ⟨hmd,?_⟩
  dsimp only [Zar,Zae]
  refine Zex hi (by rw [List.getElem?_map,hu];rfl) (by rw [List.length_map];exact Nat.le_trans hl (by decide)) ?_
  refine Zel (xs:=txs ls) (by simp only [Zas,hx]) (by rw [Zan];exact Nat.le_trans hxl (by decide)) (fun v=>if Zbi v≠k then some v else none) (fun y hy nx hnx=>?_) fun z hz=>?_
  · obtain ⟨s,hs,rfl⟩:=List.mem_map.mp hy
    have hnx:nx (if s≠k then some (.str s) else none) H:=hnx
    rw [if_neg Bool.false_ne_true,Zbn]
    dsimp only [List.cons_append,List.nil_append,List.getElem?_cons_succ,v_0,Zap,Zae,Zdn,Zai,bne_iff_ne,ne_eq]
    by_cases q:s=k
    · rw [if_neg (fun z=>z q)] at hnx
      refine Eq.mpr (if_neg (fun z=>?_)) hnx
      rw [q] at z
      simp at z
    · rw [if_pos q] at hnx
      refine Eq.mpr (if_pos ?_) hnx
      exact bne_iff_ne.mpr q
  · have e:(txs ls).filterMap (fun v=>if Zbi v≠k then some v else none)=txs (ls.filter (·≠k)):=by
      clear hx hxl hz q
      induction ls with
      | nil=>rfl
      | cons s ls ih =>
        show ((AV.str s) :: txs ls).filterMap _=_
        rw [List.filterMap_cons,ih,List.filter_cons]
        by_cases e:s=k
        · rw [show (if Zbi (AV.str s)≠k then some (AV.str s) else none)=none from if_neg fun z=>z e,if_neg (by simp [e])]
        · rw [show (if Zbi (AV.str s)≠k then some (AV.str s) else none)=some (AV.str s) from if_pos e,if_pos (by simp [e])];rfl
    rw [e]
    exact q _ z (Ext.refl.new hz) hz Zad
theorem Zys {ks:List Str} (hmd:g.md=true) (hr:H rl=some (.list (rts.map .ref))) (hl:rts.length≤100) (ht:rts[i]? = some t) (hx:H t=some (.tuple xs)) (hxl:xs.length≤1000) (hj:xs[1]? = some (.ref pl)) (hp:PL H pl l) (hpl:l.length≤1000) (hk:H ka=some (.list (txs ks))) (q:∀ H' z,Ext H H'→H z=none→H' z=some (.list (txs ((l.filter fun e=>decide (e.1∈ks) || (decide (e.1=k) && decide (w < 6))).map (·.1))))→Q (.ref z) H') :
    wpX g (.comp (.var 13) 2 true (.sub (.sub (.var 1) (.var 10)) (.lit (.int 1))) (some (.ao false [(.cmp .In (.var 13) (.var 12)),(.ao true [(.cmp .Eq (.var 13) (.var 4)),(.cmp .Lt (.var 3) (.lit (.int 6)))])]))) [v0,some (.ref rl),v2,some (.int w),some (.str k),v5,v6,v7,v8,v9,some (.int i),v11,some (.ref ka)] Q E H:=by
  refine Zj7 (fG H fun s=>decide (s∈ks) || (decide (s=k) && decide (w < 6))) hmd (fun Q' h=>Zpc (j:=1) hr hl ht hx hxl hj h) hp hpl (fun t e nx he hte hnx=>?_) fun ts z hps hz=>?_
  · rw [Zu3 hte] at hnx
    rw [Zbn]
    dsimp only [List.cons_append,List.nil_append,Zae,List.getElem?_cons_succ,v_0,x_ao,Zaz,Zba,Zap,Zah,c_lt,Zai,decide_eq_true_eq,Zcf,beq_iff_eq,c_in]
    refine Zi2 (no:=false) hk ?_
    dsimp only [Zai]
    by_cases h1:e.1∈ks
    · rw [decide_eq_true h1] at hnx ⊢
      refine Eq.mpr (if_neg (by decide)) (Eq.mpr (if_pos (by decide)) ?_)
      exact hnx
    · rw [decide_eq_false h1] at hnx ⊢
      refine Eq.mpr (if_pos (by decide)) ?_
      by_cases h2:e.1=k
      · refine Eq.mpr (if_pos (beq_iff_eq.mpr h2)) ?_
        rw [decide_eq_true h2] at hnx
        by_cases h3:w < 6
        · rw [decide_eq_true h3] at hnx ⊢
          exact hnx
        · rw [decide_eq_false h3] at hnx ⊢
          exact hnx
      · refine Eq.mpr (if_neg fun z=>h2 (beq_iff_eq.mp z)) (Eq.mpr (if_neg fun z=>h2 (beq_iff_eq.mp z)) ?_)
        rw [decide_eq_false h2] at hnx
        exact hnx
  · rw [Zzo hps]
    exact q _ z (Ext.refl.new hz) hz Zad
end
end Mine
end
section
open PySem PySem.W PyProof.Rows PySem.Spec PySem.SeqAt PySem.Calls
namespace Mine
open L12
noncomputable def dM (w o:Int):Int:=if w < 6 then 0 - o else if w=6 then o else 0
noncomputable def dA (w a:Int):Int:=if w=9 then a else if w=10 then 0 - a else 0
theorem Z03 {w a o:Int}:dK w a o=dA w a + dM w o:=by
  unfold dK dA dM
  split
  · rw [if_neg (by lia),if_neg (by lia),Int.add_zero]
  · split
    · rw [if_neg (by lia),if_neg (by lia),Int.add_zero]
    · rw [Int.zero_add]
inductive Ch (H0 H:Zaa) (v0 v1 v2 v3 v4 v5 v6 v8:Option AV) (pur:List Str) (F:Nat→Str→Int) (N:Nat→List (List Str)) (fl il zr:Addr) (m:Int) (i:Nat) (V':VV) (H':Zaa):Prop
  | mk (p10 p11 p12:Option AV) (us:List Addr) (hV:V'=[v0,v1,v2,v3,v4,v5,v6,some (.ref fl),v8,some (.ref il),p10,p11,p12]) (hE:Ext H0 H') (hf:FrAt H' fl pur (F i)) (hi:H' il=some (.list (us.map .ref))) (hu:Zc2 H' us (N i)) (nu:us.Nodup) (n0:∀ u∈us,H0 u=none) (hr:H' zr=some (.range 0 m))
section
variable {α β:Type} {p p':α→β→Prop} {as:List α} {bs:List β}
theorem All2.set (h:All2 p as bs) {j:Nat} {a:α} {b:β} (hp:p a b):All2 p (as.set j a) (bs.set j b) :=
  (h.ind (C:=fun as bs=>All2 p as bs∧∀ j,All2 p (as.set j a) (bs.set j b)) ⟨trivial,fun j=>trivial⟩ (fun a' b' as bs h ih=>⟨⟨h,ih.1⟩,fun j=>by
    cases j with
    | zero=>exact ⟨hp,ih.1⟩
    | succ j=>exact ⟨h,ih.2 j⟩⟩)).2 j
end
noncomputable def mixL (f g:Pc→List Str) (ps:List Pc) (i:Nat):List (List Str):=(ps.take i).map f ++ (ps.drop i).map g
theorem Zwf {f g:Pc→List Str} {ps:List Pc} {i:Nat}:(mixL f g ps i).length=ps.length:=by
  unfold mixL
  rw [List.length_append,List.length_map,List.length_map,← List.length_append,List.take_append_drop]
set_option tactic.hygienic true in
theorem Zuy {f g:Pc→List Str} {ps:List Pc} {i:Nat} {x:Pc} (h:ps[i]? = some x):(mixL f g ps i)[i]? = some (g x):=by
  have hlt:=(List.getElem?_eq_some_iff.mp h).1
  unfold mixL
  rw [List.getElem?_append_right (by rw [List.length_map,List.length_take];lia),List.length_map,List.length_take,Nat.min_eq_left (by exact Nat.le_of_lt (by assumption)),Nat.sub_self,List.getElem?_map,List.getElem?_drop,Nat.add_zero,h];rfl
set_option tactic.hygienic true in
theorem Zp9 {f g:Pc→List Str} {ps:List Pc} {i:Nat} {x:Pc} (h:ps[i]? = some x):(mixL f g ps i).set i (f x)=mixL f g ps (i + 1):=by
  have hlt:=(List.getElem?_eq_some_iff.mp h).1
  unfold mixL
  rw [List.set_append_right _ _ (by rw [List.length_map,List.length_take];lia),List.length_map,List.length_take,Nat.min_eq_left (by exact Nat.le_of_lt (by assumption)),Nat.sub_self,List.drop_eq_getElem_cons hlt,Za5 h,List.map_append,List.append_assoc]
  rfl
theorem Zs3 {f g:Pc→List Str} {ps:List Pc} {i:Nat} {x:Pc} (h:ps[i]? = some x) (e:f x=g x):mixL f g ps (i + 1)=mixL f g ps i:=by
  rw [← Zp9 h,e]
  obtain ⟨h1,h2⟩:=List.getElem?_eq_some_iff.mp (Zuy (f:=f) (g:=g) h)
  rw [← h2]
  exact List.set_getElem_self h1
theorem Ztr {H:Zaa} {a:Addr} {pur:List Str} {F:Str→Int} {o:List AV} (p0:0 < pur.length) (hf:FrAt H a pur F) (ho:∀ v r,o=v :: r→∀ i,v≠.int i) {z:Addr} (hz:H z=some (.list o)):z≠a:=fun e=>by
  rw [e,hf] at hz
  have:=AObj.list.inj (Option.some.inj hz)
  cases pur with
  | nil=>cases p0
  | cons p r=>exact ho _ _ this.symm _ rfl
theorem Zu2 {us:List Addr}:∀ v r,us.map AV.ref=v :: r→∀ i,v≠.int i:=fun v r h i e=>by
  cases us with
  | nil=>cases h
  | cons=>rw [e] at h;cases h
theorem Zue {l:List Str}:∀ v r,txs l=v :: r→∀ i,v≠.int i:=fun v r h i e=>by
  cases l with
  | nil=>cases h
  | cons=>rw [e] at h;cases h
theorem Zie {us:List Addr} {l:List Str} {u:Addr} (hu:u∈us):us.map AV.ref≠txs l:=fun h=>by
  cases us with
  | nil=>cases hu
  | cons a us=>cases l <;> cases h
end Mine
end
section
open PySem PySem.W PyProof.Rows PySem.Spec PySem.SeqAt PySem.Calls
namespace Mine
open L12
section
variable {c:Cx} (G:Gd c L12.P) {n:Nat} {Q:AV→Zaa→Prop} {E:String→Zaa→Prop} {H H1:Zaa} {rl pu fl il:Addr} {B:Bk} {pur:List Str} {rs:List (Str×List (Str×Int))} {tot w a:Int} {rts us:List Addr} {k nm:Str} {j0 ai:Nat} {x0:Pc}
theorem Zyu {l:List Addr} {i:Nat} {y:Addr} (nd:l.Nodup) (h:y ∉ l):(l.set i y).Nodup:=by
  induction l generalizing i with
  | nil=>exact nd
  | cons z l ih =>
    obtain ⟨n1,n2⟩:=List.nodup_cons.mp nd
    cases i with
    | zero=>exact List.nodup_cons.mpr ⟨fun q=>h (.tail _ q),n2⟩
    | succ i =>
      refine List.nodup_cons.mpr ⟨fun q=>?_,ih n2 fun q=>h (.tail _ q)⟩
      rcases List.mem_or_eq_of_mem_set q with q | q
      · exact n1 q
      · exact h (q ▸ .head _)
theorem Zxb {g:Gx} {F:Str→Int} {v0 v2 v6:Option AV} {QN:VV→Zaa→Prop} {EE:String→VV→Zaa→Prop} (hmd:g.md=true) (I:Inv pur rs B tot) (hx:pAt B.pacts nm=some (j0,x0)) (w0:0≤w) (e1:Ext H H1) (hr:H rl=some (.list (rts.map .ref))) (hR:Zdg H rts B.pacts) (hai:pur[ai]? = some k) (nf:H fl=none) (ni:H il=none) (hf:FrAt H1 fl pur F) (hi:H1 il=some (.list (us.map .ref))) (hu:Zc2 H1 us (B.pacts.map Zat)) (nu:us.Nodup) (n0:∀ u∈us,H u=none)
    (q:∀ H' d,Ext H H'→Due H H' d pur (fun s=>F s + if k=s then dM w (sAt x0.parts k) else 0) (B.pacts.map (insN w k nm))→Q (.ref d) H') :
    wpSs g (L12.f__law_changed.body.drop 4) QN Q EE [v0,some (.ref rl),v2,some (.int w),some (.str k),some (.str nm),v6,some (.ref fl),some (.int ai),some (.ref il),none,none,none] H1:=by
  have hlr:=hR.len
  have hlen:=I.len
  have p100:=I.pl
  refine w_st fun K nx=>?_
  dsimp only [Zbd]
  refine ⟨hmd,?_⟩
  dsimp only [Zak,wtg,Zac,Zaf,Zae,List.getElem?_cons_succ,v_0]
  refine Zps (e1 _ _ hr) (by rw [List.length_map,hlr];exact Nat.le_trans hlen (by decide)) ?_
  rw [List.length_map,hlr]
  refine Zlm (Int.natCast_nonneg _) (by lia) fun zr H2 hzr E2 hzr2=>?_
  refine Znj hzr2 (Ch H H2 v0 (some (.ref rl)) v2 (some (.int w)) (some (.str k)) (some (.str nm)) v6 (some (.int ai)) pur (fun i s=>F s + if k=s∧j0 < i then dM w (sAt x0.parts k) else 0) (mixL (insN w k nm) Zat B.pacts) fl il zr B.pacts.length) ⟨_,_,_,us,rfl,e1.trans E2,Zbr (E2 _ _ hf) fun s=>by rw [if_neg (fun z=>Nat.not_lt_zero _ z.2),Int.add_zero],E2 _ _ hi,Zcd hu E2,nu,n0,hzr2⟩ ?_
  rintro J hJ i V' H' ⟨p10,p11,p12,us,rfl,hE,hf',hi',hu',nu',n0',hzr'⟩
  refine ⟨hzr',fun hk=>?_,fun hk=>?_⟩
  · rw [Int.toNat_natCast] at hk
    refine nx _ _ ?_
    dsimp only [Zax,Zb0,Zbt,Zbc,Zac,Zaf,Zae,List.getElem?_cons_succ,v_0]
    intro d hd
    have Ed:=Ext.refl.new (o:=.tuple [.ref fl,.ref il]) hd
    refine q _ d (hE.trans Ed) ⟨fl,il,us,Zad,nf,ni,Zbr (Ed _ _ hf') fun s=>?_,Ed _ _ hi',?_,nu',n0'⟩
    · have:=(List.getElem?_eq_some_iff.mp (Zco hx).1).1
      by_cases z:k=s
      · rw [if_pos ⟨z,by lia⟩,if_pos z]
      · rw [if_neg (fun y=>z y.1),if_neg z]
    · have:mixL (insN w k nm) Zat B.pacts i=B.pacts.map (insN w k nm):=by
        unfold mixL
        rw [hk,List.take_length,List.drop_length,List.map_nil,List.append_nil]
      rw [this] at hu'
      exact Zcd hu' Ed
  · rw [Int.toNat_natCast] at hk
    obtain ⟨x,hxi⟩:∃ x,B.pacts[i]? = some x:=⟨_,List.getElem?_eq_getElem hk⟩
    obtain ⟨t,hti,ns,last,hrow⟩:=hR.getR hxi
    obtain ⟨pl,gl,nl,ht,hp,hg,hn⟩:=hrow.ext hE
    have at0:x.name=nm→i=j0∧x=x0:=fun e=>by
      have:=Zdj I.nm hxi
      rw [e,hx] at this
      have:=Prod.mk.inj (Option.some.inj this)
      exact ⟨this.1.symm,this.2.symm⟩
    have h00:=Zco hx
    refine ⟨show 10 < 13 by decide,?_⟩
    refine w_st fun K nx=>?_
    have stay:¬ (x.name=nm∧w < 7)→K [v0,some (.ref rl),v2,some (.int w),some (.str k),some (.str nm),v6,some (.ref fl),some (.int ai),some (.ref il),some (.int i),p11,p12] H':=fun hno=>nx _ _ (hJ _ _ _ ⟨_,_,_,us,rfl,hE,Zbr hf' fun s=>(by
      by_cases e:i=j0
      · have hxx:x=x0:=by rw [e,h00.1] at hxi;exact (Option.some.inj hxi).symm
        have w7:¬ w < 7:=fun z=>hno ⟨by rw [hxx];exact h00.2,z⟩
        have:dM w (sAt x0.parts k)=0:=by unfold dM;rw [if_neg (by lia),if_neg (by lia)]
        rw [this,ite_self,ite_self]
      · have:(k=s∧j0 < i) ↔ (k=s∧j0 < i + 1):=⟨fun z=>⟨z.1,by lia⟩,fun z=>⟨z.1,by lia⟩⟩
        exact congrArg (F s + ·) (ite_congr (propext this) (fun _=>rfl) fun _=>rfl)),hi',by rw [Zs3 hxi (if_neg hno)];exact hu',nu',n0',hzr'⟩)
    dsimp only [Zay,x_ao,Zaz,Zap]
    refine Zpc (j:=0) (hE _ _ hr) (by rw [hlr];exact hlen) hti ht (show 5≤1000 by decide) rfl ?_
    dsimp only [List.set_cons_succ,List.set_cons_zero,Zba,Zap,Zah,Zae,List.getElem?_cons_succ,v_0,c_lt,Zai,decide_eq_true_eq,Zcf,beq_iff_eq]
    by_cases hnm:x.name=nm
    · refine Eq.mpr (if_pos (beq_iff_eq.mpr hnm)) ?_
      by_cases hw7:w < 7
      · refine Eq.mpr (if_pos (decide_eq_true hw7)) ?_
        obtain ⟨rfl,rfl⟩:=at0 hnm
        have hpx:=I.at hxi
        have l8:x.parts.length≤1000:=Nat.le_trans hpx.ln.1 (by decide)
        have l100:rts.length≤100:=by rw [hlr];exact hlen
        refine w_st fun K2 nx2=>?_
        dsimp only [Zaj]
        refine Zye hmd (hE _ _ hr) l100 hti ht (show 5≤1000 by decide) rfl hp l8 fun H3 E3=>⟨show 11 < 13 by decide,nx2 _ _ ?_⟩
        refine w_st fun K2 nx2=>?_
        dsimp only [Zaj]
        dsimp only [List.set_cons_succ,List.set_cons_zero,Zau,Zar,Zah,Zae,List.getElem?_cons_succ,v_0,Zb1,ne_eq,Zaw,Zac,Zaf,Zda]
        refine Zq3 (E3 _ _ hf') p100 hai ?_
        intro z hz
        refine ⟨by decide,?_⟩
        have hd6:w.fdiv 6=((if w < 6 then 0 else 1:Nat):Int):=by
          rw [Int.fdiv_eq_ediv_of_nonneg _ (by decide)]
          split <;> omega
        rw [hd6]
        have hv:([.int (0 - sAt x.parts k),.int (sAt x.parts k)]:List AV)[(if w < 6 then 0 else 1:Nat)]? = some (.int (dM w (sAt x.parts k))):=by
          unfold dM
          by_cases w6:w < 6
          · rw [if_pos w6,if_pos w6];rfl
          · rw [if_neg w6,if_neg w6,if_pos (by lia)];rfl
        refine Zex Zad hv (show 2≤1000 by decide) ?_
        have E4:=E3.new (o:=.list [.int (0 - sAt x.parts k),.int (sAt x.parts k)]) hz
        generalize up H3 z (.list [.int (0 - sAt x.parts k),.int (sAt x.parts k)])=H4 at E4
        dsimp only [Zb5]
        unfold wpT
        dsimp only
        dsimp only [Nat.lt_irrefl,and_false,Zae,List.getElem?_cons_succ,v_0]
        refine Zo7 I.nd (E4 _ _ hf') p100 hai fun H5 k5 hf5=>nx2 _ _ ?_
        have p0:0 < pur.length:=Nat.lt_of_le_of_lt (Nat.zero_le _) (List.getElem?_eq_some_iff.mp hai).1
        have nif:il≠fl:=Ztr p0 hf' Zu2 hi'
        have nuf:∀ {u:Addr} {l:List Str},H' u=some (.list (txs l))→u≠fl:=fun h=>Ztr p0 hf' Zue h
        have e5:Ext H H5:=fun y v h=>k5 y v (Zc6 h nf) ((hE.trans E4) y v h)
        have hi5:=k5 _ _ nif (E4 _ _ hi')
        have hu5:Zc2 H5 us (mixL (insN w k nm) Zat B.pacts i):=hu'.map fun r=>k5 _ _ (nuf r) (E4 _ _ r)
        have hzr5:H5 zr=some (.range 0 B.pacts.length):=k5 _ _ (fun e=>by rw [e,show H' fl=_ from hf'] at hzr';cases hzr') (E4 _ _ hzr')
        obtain ⟨u,hui,hu6⟩:=hu5.getR (Zuy (f:=insN w k nm) (g:=Zat) hxi)
        have lus:us.length≤100:=by rw [hu5.len,Zwf];exact hlen
        have lx:(Zat x).length≤1000:=by
          unfold Zat
          rw [List.length_map]
          exact Nat.le_trans (List.length_filter_le _ _) l8
        refine w_st fun K2 nx2=>?_
        dsimp only [Zaj]
        refine Zwn hmd hi5 lus hui hu6 lx fun H6 ka E6 hka hk6=>⟨show 12 < 13 by decide,nx2 _ _ ?_⟩
        refine w_st fun K2 nx2=>?_
        dsimp only [Zaj]
        obtain ⟨pl',gl',nl',ht',hp',hg',hn'⟩:=hrow.ext (e5.trans E6)
        refine Zys (w:=w) hmd ((e5.trans E6) _ _ hr) l100 hti ht' (show 5≤1000 by decide) rfl hp' l8 hk6 fun H7 z7 E7 hz7 h7=>?_
        unfold wpT
        dsimp only
        dsimp only [List.set_cons_succ,List.set_cons_zero,Zae,List.getElem?_cons_succ,v_0]
        have E57:=E6.trans E7
        have hi7:=E57 _ _ hi5
        have hz5:H5 z7=none:=E6.none hz7
        have n7i:z7≠il:=(Zc6 hi5 hz5).symm
        unfold Zjr
        dsimp only
        rw [hi7]
        have hil:i < us.length:=(List.getElem?_eq_some_iff.mp hui).1
        refine ⟨Int.natCast_nonneg i,by rw [List.length_map];exact Int.ofNat_lt.mpr hil,by rw [List.length_map];exact Nat.lt_of_le_of_lt lus (by decide),nx2 _ _ (nx _ _ ?_)⟩
        rw [Int.toNat_natCast]
        have ntx:∀ {y:Addr} {l:List Str},H7 y=some (.list (txs l))→y≠il:=fun {y l} h e=>by
          rw [e,hi7] at h
          exact Zie (List.mem_of_getElem? hui) (AObj.list.inj (Option.some.inj h))
        have own:∀ {y:Addr} {o:AObj} {L:List AV},y≠il→H7 y=some o→up H7 il (.list L) y=some o:=fun hy h=>by rw [Zab hy];exact h
        refine hJ _ _ _ ⟨_,_,_,us.set i z7,rfl,(e5.trans E57).own ni,?_,?_,?_,?_,fun v hv=>?_,?_⟩
        · have:FrAt (up H7 il (.list ((us.map AV.ref).set i (.ref z7)))) fl pur _:=own nif.symm (E57 _ _ hf5)
          refine Zbr this fun s=>?_
          rw [if_neg (fun z=>Nat.lt_irrefl _ z.2),Int.add_zero]
          refine congrArg (F s + ·) (ite_congr (propext ⟨fun z=>⟨z,Nat.lt_succ_self _⟩,fun z=>z.1⟩) (fun _=>rfl) fun _=>rfl)
        · rw [Zad,List.map_set]
        · rw [← Zp9 hxi]
          refine All2.set (hu5.map fun r=>own (ntx (E57 _ _ r)) (E57 _ _ r)) (own n7i ?_)
          rw [h7]
          unfold insN
          rw [if_pos ⟨hnm,hw7⟩];rfl
        · refine Zyu nu' fun z=>?_
          obtain ⟨l',h'⟩:=Zmz hu5 z
          rw [hz5] at h';cases h'
        · rcases List.mem_or_eq_of_mem_set hv with h | h
          · exact n0' v h
          · rw [h];exact e5.none hz5
        · exact own (fun e=>by rw [e] at hzr5;rw [hzr5] at hi5;cases hi5) (E57 _ _ hzr5)
      · refine Eq.mpr (if_neg (fun z=>hw7 (of_decide_eq_true z))) ?_
        exact stay fun z=>hw7 z.2
    · refine Eq.mpr (if_neg (fun z=>hnm (beq_iff_eq.mp z))) ?_
      refine Eq.mpr (if_neg (fun z=>hnm (beq_iff_eq.mp z))) ?_
      exact stay fun z=>hnm z.1
end
end Mine
end
section
open PySem PySem.W PyProof.Rows PySem.Spec PySem.SeqAt PySem.Calls
namespace Mine
open L12
section
variable {c:Cx} (G:Gd c L12.P) {n:Nat} {Q:AV→Zaa→Prop} {E:String→Zaa→Prop} {H:Zaa} {rl pu t:Addr} {B:Bk} {pur:List Str} {rs:List (Str×List (Str×Int))} {tot w a:Int} {rts:List Addr} {k nm:Str} {j0:Nat} {x0:Pc}
include G
theorem Zon (hS:Sn H t B pur) (I:Inv pur rs B tot) (hx:pAt B.pacts nm=some (j0,x0)) (w0:0≤w) (hpu:H pu=some (.list (txs pur))) (hr:H rl=some (.list (rts.map .ref))) (hR:Zdg H rts B.pacts) (hk:k∈pur)
    (q:∀ H' d,Ext H H'→Due H H' d pur (fun s=>vl B.free s + if k=s then dK w a (sAt x0.parts k) else 0) (B.pacts.map (insN w k nm))→Q (.ref d) H'):CallOK c (n + 1) true "_law_changed" [.ref t,.ref rl,.ref pu,.int w,.str k,.str nm,.int a] Q E H:=by
  refine G.call (F:=L12.f__law_changed) rfl rfl ?_
  show wpSs _ _ _ _ _ [some (.ref t),some (.ref rl),some (.ref pu),some (.int w),some (.str k),some (.str nm),some (.int a),none,none,none,none,none,none] _
  obtain ⟨f,ia,sa,us0,ht,hf,hi,hu,hs⟩:=hS
  have p100:=I.pl
  refine w_st fun K nx=>?_
  dsimp only [Zaj,tv,List.length_cons,List.length_nil,Nat.reduceAdd,List.set_cons_succ,List.set_cons_zero,Zak,Zac,Zaf,Zar,Zah,Zae,v_0]
  refine Zjx (j:=0) ht rfl (show 3≤1000 by decide) ?_
  refine Zmm hf (by rw [List.length_map];exact Nat.le_trans p100 (by decide)) fun fl hfl=>⟨by decide,nx _ _ ?_⟩
  have E1:=Ext.refl.new (o:=.list (pur.map fun p=>.int (vl B.free p))) hfl
  have f1:FrAt (up H fl (.list (pur.map fun p=>.int (vl B.free p)))) fl pur (vl B.free):=Zad
  generalize up H fl (.list (pur.map fun p=>.int (vl B.free p)))=H1 at E1 f1
  have hb:bmOn .index (.ref pu) H1:=by
    show match H1 pu with | some (.list _)=>_ | some (.dict _ _)=>_ | _=>False
    rw [E1 _ _ hpu]
    exact .inr (.inr (.inl rfl))
  refine w_st fun K nx=>?_
  dsimp only [Zaj,tv,List.length_cons,List.length_nil,Nat.reduceAdd,List.set_cons_succ,List.set_cons_zero,x_bm,Zac,Zaf,Zae,List.getElem?_cons_succ,v_0]
  refine ⟨hb,Zqv (E1 _ _ hpu) p100 hk fun ai hai=>⟨by decide,nx _ _ ?_⟩⟩
  refine w_st fun K nx=>?_
  have go:∀ H2,Ext H H2→FrAt H2 fl pur (fun s=>vl B.free s + if k=s then dA w a else 0)→K [some (.ref t),some (.ref rl),some (.ref pu),some (.int w),some (.str k),some (.str nm),some (.int a),some (.ref fl),some (.int ai),none,none,none,none] H2:=fun H2 E2 f2=>by
    refine nx _ _ ?_
    refine w_st fun K nx=>?_
    dsimp only [Zaj]
    refine Zkx (m:=13) rfl rfl (fun Q' h=>row5 (j:=1) rfl (E2 _ _ ht) (show 3≤1000 by decide) rfl h) (E2 _ _ hi) (Zcd hu E2) (by rw [hu.len,List.length_map];exact I.len) (fun l hl=>?_) fun H3 il vs E3 nil h3 hv nv n0=>⟨show 9 < 13 by decide,nx _ _ ?_⟩
    · obtain ⟨x,hxm,rfl⟩:=List.mem_map.mp hl
      unfold Zat
      rw [List.length_map]
      exact Nat.le_trans (List.length_filter_le _ _) (Nat.le_trans (I.pc x hxm).ln.1 (by decide))
    refine Zxb rfl I hx w0 (E2.trans E3) hr hR hai hfl (E2.none nil) (E3 _ _ f2) h3 hv nv (fun v hv=>E2.none (n0 v hv)) fun H4 d E4 D=>q H4 d E4 ?_
    obtain ⟨fl',il',us',d1,d2,d3,d4,d5,d6,d7,d8⟩:=D
    refine ⟨fl',il',us',d1,d2,d3,Zbr d4 fun s=>?_,d5,d6,d7,d8⟩
    by_cases z:k=s
    · rw [if_pos z,if_pos z,if_pos z,Z03,Int.add_assoc]
    · rw [if_neg z,if_neg z,if_neg z,Int.add_zero]
  have act:w=9∨w=10→wpSs ⟨c,n,true⟩ [.assign (.sub (.var 7) (.var 8)) (.bin .Add (.sub (.var 7) (.var 8)) (.sub (.list [.var 6,.bin .Sub (.lit (.int 0)) (.var 6)]) (.bin .Sub (.var 3) (.lit (.int 9)))))] K Q (fun cl _ H=>E cl H) [some (.ref t),some (.ref rl),some (.ref pu),some (.int w),some (.str k),some (.str nm),some (.int a),some (.ref fl),some (.int ai),none,none,none,none] H1:=fun hw=>by
    dsimp only [Zax,Zaj]
    dsimp only [Zau,Zar,Zah,Zae,List.getElem?_cons_succ,v_0,Zda,Zaw,Zac,Zaf]
    refine Zq3 f1 p100 hai ?_
    intro z hz
    have h9:w - 9=((if w=9 then 0 else 1:Nat):Int):=by split <;> omega
    have hv:([.int a,.int (0 - a)]:List AV)[(if w=9 then 0 else 1:Nat)]? = some (.int (dA w a)):=by
      unfold dA
      by_cases w9:w=9
      · rw [if_pos w9,if_pos w9];rfl
      · rw [if_neg w9,if_neg w9,if_pos (hw.resolve_left w9)];rfl
    rw [h9]
    refine Zex Zad hv (show 2≤1000 by decide) ?_
    dsimp only [Zb5]
    unfold wpT
    dsimp only
    dsimp only [Zae,List.getElem?_cons_succ,v_0]
    exact Zo7 I.nd (Zfw f1 hz) p100 hai fun H5 k5 hf5=>go H5 (fun y v h=>k5 y v (Zc6 h hfl) (Zfw (E1 _ _ h) hz)) hf5
  have no:¬ (w=9∨w=10)→K [some (.ref t),some (.ref rl),some (.ref pu),some (.int w),some (.str k),some (.str nm),some (.int a),some (.ref fl),some (.int ai),none,none,none,none] H1:=fun hw=>go H1 E1 (Zbr f1 fun s=>by
    unfold dA
    rw [if_neg (fun z=>hw (.inl z)),if_neg (fun z=>hw (.inr z)),ite_self,Int.add_zero])
  dsimp only [Zay]
  dsimp only [x_ao,Zaz,Zba,Zap,Zah,Zae,List.getElem?_cons_succ,v_0,c_eq,Zai,beq_iff_eq,beq_eq_false_iff_ne,ne_eq]
  by_cases w9:w=9
  · refine Eq.mpr (if_neg (by rw [w9];decide)) ?_
    refine Eq.mpr (if_pos (beq_iff_eq.mpr w9)) ?_
    exact act (.inl w9)
  · refine Eq.mpr (if_pos (beq_eq_false_iff_ne.mpr w9)) ?_
    by_cases w10:w=10
    · refine Eq.mpr (if_pos (beq_iff_eq.mpr w10)) ?_
      exact act (.inr w10)
    · refine Eq.mpr (if_neg fun z=>w10 (beq_iff_eq.mp z)) ?_
      exact no fun z=>z.elim w9 w10
end
end Mine
end
section
open PySem PySem.W PyProof.Rows PySem.Spec PySem.SeqAt PySem.Calls
namespace Mine
open L12
theorem Kb.own {b z:Addr} {H H':Zaa} {o:AObj} (k:Kb b H H') (h:H z=none):Kb b H (Mine.up H' z o):=fun a x n hx=>by rw [Zab (Zc6 hx h)];exact k a x n hx
structure Rd where
  nm:Str
  ps:List (Str×Int)
  gs:List (Str×Int)
  ns:List Str
  last:Int
noncomputable def Rd.pc (r:Rd):Pc:=⟨r.nm,r.ps,r.gs,r.ns,r.last,.opn,[]⟩
abbrev Zv1 (H:Zaa):List Addr→List Rd→Prop:=All2 fun t r=>Rw H t r.nm r.ps r.gs r.ns r.last
inductive Ri (H:Zaa) (sp b nz pu rl zr:Addr) (many:Int) (pur wds:List Str) (k:Nat) (V':VV) (H':Zaa):Prop
  | mk (p6 p7:Option AV) (tot:Int) (B:Bk) (rts:List Addr) (rs:List Rd) (hV:V'=[some (.ref sp),some (.ref b),some (.ref nz),some (.int many),some (.ref pu),some (.ref rl),p6,p7,none]) (hK:Kb b H H') (hb:H' b=some (.book B)) (I:Inv (pur.take k) [] B tot) (hd:B.day=0) (hr:H' rl=some (.list (rts.map .ref)))
      (hF:∀ H2:Zaa,(∀ a x,a≠rl→a≠b→H' a=some x→H2 a=some x)→Zv1 H2 rts rs) (hn:rs.map (·.nm)=wds.take k) (ok:∀ r∈rs,Zry pur r.nm r.ps r.gs r.ns r.last) (hz:H' zr=some (.range 0 many))
section
variable {c:Cx} (G:Gd c L12.P) {n:Nat} {Q:AV→Zaa→Prop} {E:String→Zaa→Prop} {H:Zaa} {sp b pu wd:Addr} {ns:List Int} {pur wds:List Str}
theorem Zwa {p:List Str} {B:Bk} {tot:Int} {s:Str} (I:Inv p [] B tot) (hl:p.length < 100) (nm:isNm s=true) (hn:s ∉ p):∃ B',Zny B (.str s) = .ok B'∧Inv (p ++ [s]) [] B' tot∧B'.day=B.day:=by
  have e:Zny B (.str s) = .ok { B with free:=pt B.free s 0,aside:=pt B.aside s 0 }:=(if_pos nm).trans (if_neg fun z=>hn ((Zdr I.fk).mp z))
  exact ⟨_,e,I.open (List.map_eq_nil_iff.mp I.kp) hl hn,rfl⟩
theorem Zx7 {p:List Str} {B:Bk} {tot a:Int} {s:Str} {rs:List (Str×List (Str×Int))} (I:Inv p rs B tot) (nm:isNm s=true) (hs:s∈p) (ha:1≤a∧a≤1000000000000000000000000000000):∃ B',putQ B (.str s) (.int a) = .ok B'∧Inv p rs B' (tot + a)∧B'.day=B.day:=by
  have e:putQ B (.str s) (.int a) = .ok { B with free:=pt B.free s (Zcc B (.str s) + a) }:=(if_pos (show Zbz B (.str s)=true from Bool.and_eq_true _ _ ▸ ⟨nm,(Zdr I.fk).mpr hs⟩)).trans (if_pos (decide_eq_true ha))
  exact ⟨_,e,I.put e,rfl⟩
include G
set_option tactic.hygienic true in
theorem Z0o {many:Int} {nz:Addr} (hm:many=(pur.length:Nat)) (hs:H sp=some (.script ns)) (hl:ns.length≤63) (hb:H b=some (.book ⟨0,[],[],[]⟩)) (hnz:H nz=some (.list (txs (pur ++ wds)))) (e:pur.length=wds.length) (p0:0 < pur.length) (p1:pur.length≤12) (nd:pur.Nodup) (np:∀ s∈pur,isNm s=true) (nw:∀ s∈wds,isNm s=true) {QN:VV→Zaa→Prop} {EE:String→VV→Zaa→Prop}
    (q:∀ H' pu rl rts rs tot B p6 p7,Kb b H H'→H' pu=some (.list (txs pur))→H' rl=some (.list (rts.map .ref))→Zv1 H' rts rs→rs.map (·.nm)=wds→(∀ r∈rs,Zry pur r.nm r.ps r.gs r.ns r.last)→H' b=some (.book B)→Inv pur [] B tot→B.day=0→wpSs ⟨c,n + 4,true⟩ (L12.f__law_rows.body.drop 3) QN Q EE [some (.ref sp),some (.ref b),some (.ref nz),some (.int many),some (.ref pu),some (.ref rl),p6,p7,none] H'):wpSs ⟨c,n + 4,true⟩ L12.f__law_rows.body QN Q EE [some (.ref sp),some (.ref b),some (.ref nz),some (.int many),none,none,none,none,none] H:=by
  have hM:c.P.meths=BK.meths:=by rw [G.hP];rfl
  have hln:(pur ++ wds).length≤1000:=by rw [List.length_append];lia
  refine w_st fun K nx=>?_
  dsimp only [Zaj,tv,List.length_cons,List.length_nil,Nat.reduceAdd,List.set_cons_succ,List.set_cons_zero,Zav,Zbv,Zbs,Zae,List.getElem?_cons_succ,v_0]
  refine Zhh (lo:=none) (hi:=some (.int many)) (st:=none) (l:=none) (u:=some many) (t:=none) hnz rfl rfl rfl (by decide) (by rw [Zan];exact hln) fun pu H1 E1 hpu0 hpu=>⟨by decide,nx _ _ ?_⟩
  have hpu:H1 pu=some (.list (txs pur)):=by
    rw [hpu,hm,Zj4]
    unfold txs
    rw [← List.map_take,List.take_left'];rfl
  refine w_st fun K nx=>?_
  dsimp only [Zaj,tv,List.length_cons,List.length_nil,Nat.reduceAdd,List.set_cons_succ,List.set_cons_zero,Zaw,Zaf]
  intro rl hrl
  refine ⟨by decide,nx _ _ ?_⟩
  have E2:=Ext.refl.new (o:=.list []) hrl
  have hr2:up H1 rl (.list []) rl=some (.list (([]:List Addr).map .ref)):=Zad
  generalize up H1 rl (.list [])=H2 at E2 hr2
  refine w_st fun K nx=>?_
  dsimp only [Zbd]
  refine ⟨rfl,?_⟩
  dsimp only [Zak,wtg,Zac,Zaf,Zae,List.getElem?_cons_succ,v_0]
  refine Zlm (by lia) (by lia) fun zr H3 hzr E3 hz=>?_
  have bs:sp≠b:=fun z=>by rw [z,hb] at hs;cases hs
  have bn:nz≠b:=fun z=>by rw [z,hb] at hnz;cases hnz
  have bp:pu≠b:=(Zc6 hb hpu0).symm
  have br:rl≠b:=(Zc6 (E1 _ _ hb) hrl).symm
  have pr:pu≠rl:=Zc6 hpu hrl
  have e3:=(E1.trans E2).trans E3
  have nrl:H rl=none:=E1.none hrl
  refine Znj hz (Ri H1 sp b nz pu rl zr many pur wds) ⟨_,_,0,_,[],[],rfl,.ext (E2.trans E3),e3 _ _ hb,by rw [List.take_zero];exact inv0,rfl,E3 _ _ hr2,fun _ _=>trivial,rfl,(fun r hr=>by cases hr),hz⟩ ?_
  rintro J hJ k V' H' ⟨p6,p7,tot,B,rts,rs,rfl,hK,hb',I,hd,hr,hF,hn,hok,hz'⟩
  have hK0:=Kb.trans (.ext E1) hK
  have hpu':=hK _ _ bp hpu
  have hlr:rs.length=(wds.take k).length:=by rw [← hn,List.length_map]
  refine ⟨hz',fun hk=>nx _ _ ?_,fun hk=>?_⟩
  · rw [hm,Int.toNat_natCast] at hk
    rw [hk,List.take_length] at I
    rw [hk,e,List.take_length] at hn
    exact q _ pu rl rts rs tot B _ _ hK0 hpu' hr (hF H' fun _ _ _ _ h=>h) hn hok hb' I hd
  rw [hm,Int.toNat_natCast] at hk
  have hsk:=List.getElem?_eq_getElem hk
  generalize hse:pur[k]=s at hsk
  have hsm:=List.mem_of_getElem? hsk
  have hwk:k < wds.length:=e ▸ hk
  have hrz:zr≠rl:=fun z=>by rw [z,hr] at hz';cases hz'
  have hbz:zr≠b:=fun z=>by rw [z,hb'] at hz';cases hz'
  refine ⟨show 6 < 9 by decide,?_⟩
  refine w_st fun K nx=>?_
  refine Eq.mpr (Zaj) (Eq.mpr (Zam) (Eq.mpr (Zac) (Eq.mpr (Zam) (Eq.mpr (Zac) (Eq.mpr (Zae) ?_)))))
  show wpXs _ [_] _ _ _ _
  dsimp only [List.set_cons_succ,List.set_cons_zero,tv,List.length_cons,List.length_nil,Nat.reduceAdd,Zac,Zaf,Zae,List.getElem?_cons_succ,v_0,Zau,Zah,Zb5]
  refine Zh1 (n:=n + 3) G rfl (by exact Int.natCast_nonneg _) (hK0 _ _ bs hs) (by exact Nat.lt_of_le_of_lt (by assumption) (by decide)) ?_
  refine Zgy G rfl ⟨by decide,nx _ _ ?_⟩
  generalize mixed (cell ns (2 + (k:Int)).toNat) k=x
  refine w_st fun K nx=>?_
  dsimp only [Zal]
  refine Zcx hM (by decide) (by decide) hb' rfl ?_
  dsimp only [String.reduceAppend,Zac,Zaf,Zar,Zae,List.getElem?_cons_succ,v_0]
  refine Zha hpu' hsk (by exact Nat.le_trans (by assumption) (by decide)) ?_
  have hnp:s ∉ pur.take k:=fun h=>by
    have:=(List.nodup_append.mp (show (pur.take k ++ [s]).Nodup by rw [← Za5 hsk];exact nd.sublist (List.take_sublist _ _))).2.2 s h s (.head _)
    exact this rfl
  obtain ⟨B1,o1,I1,d1⟩:=Zwa I (by rw [List.length_take];lia) (np s hsm) hnp
  rw [← Za5 hsk] at I1
  refine Zyg (n:=n + 1) G U12.a hb' (Kv.nm (np s hsm)).kn I.ok.sz ?_
  rw [o1]
  refine nx _ _ ?_
  have K1:Kb b H' (up H' b (.book B1)):=.up
  have b1:up H' b (.book B1) b=some (.book B1):=Zad
  generalize up H' b (.book B1)=H4 at K1 b1
  have hsp:s∈pur.take (k + 1):=by rw [Za5 hsk];exact List.mem_append_right _ (.head _)
  refine w_st fun K nx=>?_
  suffices go:∀ H5 B2 tot',Kb b H' H5→H5 b=some (.book B2)→Inv (pur.take (k + 1)) [] B2 tot'→B2.day=0→K [some (.ref sp),some (.ref b),some (.ref nz),some (.int many),some (.ref pu),some (.ref rl),some (.int k),some (.int x),none] H5 by
    dsimp only [Zay]
    dsimp only [Zap,Zah,Zau,Zae,List.getElem?_cons_succ,v_0,Zby,ne_eq,c_gt,Zai,decide_eq_true_eq]
    refine ⟨by decide,?_⟩
    split
    · have c0:=Za6 (x:=x.fdiv 5) (m:=90) (by decide)
      have c9:=Zbe (x:=x.fdiv 5) (m:=90) (by decide)
      refine w_st fun K2 nx2=>?_
      dsimp only [Zal]
      refine Zcx hM (by decide) (by decide) b1 rfl ?_
      dsimp only [String.reduceAppend,Zac,Zaf,Zau,Zah,Zae,List.getElem?_cons_succ,v_0,Zb1,ne_eq,Zby,Zb5,Zar]
      refine Zha (K1 _ _ bp hpu') hsk (by exact Nat.le_trans (by assumption) (by decide)) ⟨by decide,by decide,?_⟩
      obtain ⟨B2,p2,I2,d2⟩:=Zx7 (a:=1 + (x.fdiv 5).fmod 90) I1 (np s hsm) hsp ⟨by lia,by lia⟩
      refine Zx9 (n:=n + 1) G U12.a rfl b1 (Kv.nm (np s hsm)).kn Kv.int.kn I1.ok.sz ?_
      rw [p2]
      exact nx2 _ _ (go _ B2 _ (K1.trans .up) Zad I2 (d2.trans (d1.trans hd)))
    · exact go H4 B1 tot K1 b1 I1 (d1.trans hd)
  intro H5 B2 tot' K5 b5 I5 dd5
  refine nx _ _ ?_
  have K05:=hK0.trans K5
  have h5:=K5 _ _ br hr
  refine w_st fun K nx=>?_
  dsimp only [Zal,x_bm,Zae]
  refine ⟨?_,?_⟩
  · show match H5 rl with | some (.list _)=>_ | some (.dict _ _)=>_ | _=>False
    rw [h5];exact .inl rfl
  dsimp only [Zac,Zam]
  dsimp only [Zaf,Zar,Zau,Zae,List.getElem?_cons_succ,v_0,Zb5,Zaw,Zac,Zah,Zav,Zbv,Zbs,Zb1,ne_eq]
  refine ⟨by decide,?_⟩
  refine Zhh (lo:=some (.int many)) (hi:=none) (st:=none) (l:=some many) (u:=none) (t:=none) (K05 _ _ bn hnz) rfl rfl rfl (by decide) (by rw [Zan];exact hln) fun zw H6 E6 hzw0 hzw=>?_
  have hzw:H6 zw=some (.list (txs wds)):=by
    rw [hzw,hm,Zpo (by rw [Zan,List.length_append];lia)]
    unfold txs
    rw [← List.map_drop,List.drop_left'];rfl
  intro za hza
  have Ea:=E6.new (o:=.list (txs [Str.ofString "never",Str.ofString "yet"])) hza
  have Ea1:=Ext.refl.new (o:=.list (txs [Str.ofString "never",Str.ofString "yet"])) hza
  refine Zxg (ys:=txs [Str.ofString "never",Str.ofString "yet"]) (Ea1 _ _ hzw) Zad (by rw [Zan,← e];show pur.length + 2≤1000;lia) fun zc hzc=>?_
  have Ec:=Ea.new (o:=.list (txs wds ++ txs [Str.ofString "never",Str.ofString "yet"])) hzc
  have hzc1:up (up H6 za (.list (txs [Str.ofString "never",Str.ofString "yet"]))) zc (.list (txs wds ++ txs [Str.ofString "never",Str.ofString "yet"])) zc=some (.list (txs (wds ++ [Str.ofString "never",Str.ofString "yet"]))):=by rw [Zad];unfold txs;rw [List.map_append]
  rw [show (AObj.list [AV.str (Str.ofString "never"),.str (Str.ofString "yet")]) = .list (txs [Str.ofString "never",Str.ofString "yet"]) from rfl]
  generalize up (up H6 za (.list (txs [Str.ofString "never",Str.ofString "yet"]))) zc (.list (txs wds ++ txs [Str.ofString "never",Str.ofString "yet"]))=H7 at Ec hzc1
  have hat:(pur ++ wds)[pur.length + k]? = some wds[k]:=by rw [List.getElem?_append_right (Nat.le_add_right _ _),Nat.add_sub_cancel_left];exact List.getElem?_eq_getElem hwk
  rw [show many + (k:Int)=((pur.length + k:Nat):Int) by rw [hm];lia]
  refine Zha (Ec _ _ (K05 _ _ bn hnz)) hat hln ?_
  have hlw:(wds ++ [Str.ofString "never",Str.ofString "yet"]).length=pur.length + 2:=by rw [List.length_append,← e];rfl
  refine Znw (n:=n + 3) G (Ec _ _ (K5 _ _ bp hpu')) hzc1 nd p0 (by exact Nat.le_trans (by assumption) (by decide)) (by lia) (by lia) np (fun s h=>?_) fun H8 t ps gs nds last E8 rok rf=>?_
  · rcases List.mem_append.mp h with h | h
    · exact nw s h
    · exact (by decide +kernel:∀ s∈[Str.ofString "never",Str.ofString "yet"],isNm s=true) s h
  have E58:=Ec.trans E8
  have h8:=E58 _ _ h5
  have b8:=E58 _ _ b5
  have hlen:(rts.map AV.ref).length≤100000:=by
    rw [List.length_map,(hF H' fun _ _ _ _ h=>h).len,hlr,List.length_take];lia
  refine Zc8 h8 hlen (nx _ _ (hJ _ _ _ ⟨_,_,tot',B2,rts ++ [t],rs ++ [⟨wds[k],ps,gs,nds,last⟩],rfl,?_,?_,I5,dd5,?_,fun H9 ag=>?_,?_,fun r hr'=>?_,?_⟩))
  · exact ((hK.trans K5).trans (.ext E58)).own hrl
  · rw [Zab br.symm];exact b8
  · rw [Zad,List.map_append];rfl
  · have ag':∀ a x,a≠rl→a≠b→H8 a=some x→H9 a=some x:=fun a x h1 h2 h=>ag a x h1 h2 (by rw [Zab h1];exact h)
    refine All2.snoc (b:=(⟨wds[k],ps,gs,nds,last⟩:Rd)) (hF H9 fun a x h1 h2 h=>ag' a x h1 h2 (E58 _ _ (K5 a x h2 h))) (rf H9 fun a x hx h=>?_)
    have n1:a≠rl:=fun z=>by
      rcases hx with hx | ⟨v,rfl⟩
      · rw [z,Ec _ _ h5] at hx;cases hx
      · rw [z,h8] at h;cases h
    have n2:a≠b:=fun z=>by
      rcases hx with hx | ⟨v,rfl⟩
      · rw [z,Ec _ _ b5] at hx;cases hx
      · rw [z,b8] at h;cases h
    exact ag' a x n1 n2 h
  · rw [List.map_append,hn,Za5 (List.getElem?_eq_getElem hwk)];rfl
  · rcases List.mem_append.mp hr' with h | h
    · exact hok r h
    · rw [List.mem_singleton.mp h];exact rok
  · rw [Zab hrz];exact E58 _ _ (K5 _ _ hbz hz')
end
end Mine
end
section
open PySem PySem.W PyProof.Rows PySem.Spec PySem.SeqAt PySem.Calls
namespace Mine
open L12
noncomputable def kpR (rs:List Rd):List (Str×List (Str×Int)):=rs.map fun r=>(r.nm,r.ps)
inductive Tl (H:Zaa) (v0 v2 v3 v4 v6 v7:Option AV) (b rl:Addr) (pur:List Str) (rs:List Rd) (tot:Int) (i:Nat) (V':VV) (H':Zaa):Prop
  | mk (p8:Option AV) (B:Bk) (hV:V'=[v0,some (.ref b),v2,v3,v4,some (.ref rl),v6,v7,p8]) (hK:Kb b H H') (hb:H' b=some (.book B)) (I:Inv pur (kpR (rs.take i)) B tot) (hp:B.pacts=(rs.take i).map Rd.pc) (hd:B.day=0)
theorem Zqj {md:Bool} {Q:AV→Zaa→Prop} {H:Zaa} {a:Addr} {l:List (Str×Int)} (p:PL H a l) (hl:l.length≤100) (q:∀ z H',Ext H H'→PL H' z l→Q (.ref z) H'):Zdz md .list [.ref a] Q H :=
  let ⟨ts,h,p⟩:=p
  Zmm h (by rw [List.length_map,Zb9 p,Zek];exact Nat.le_trans hl (by decide)) fun z hz=>q z _ (Ext.refl.new hz) ⟨ts,Zad,p.ext (Ext.refl.new hz)⟩
theorem Zyd {ps:List Pc} {k:Str} (h:k ∉ ps.map (·.name)):pAt ps k=none:=by
  induction ps with
  | nil=>rfl
  | cons q r ih =>
    unfold pAt
    rw [if_neg (fun e=>h (List.mem_cons.mpr (.inl e.symm))),ih (fun z=>h (List.mem_cons_of_mem _ z))];rfl
theorem Zvy {H:Zaa} {ts:List Addr} {rs:List Rd} (h:Zv1 H ts rs):Zdg H ts (rs.map Rd.pc) :=
  h.ind (C:=fun ts rs=>Zdg H ts (rs.map Rd.pc)) trivial fun a b as bs p ih=>⟨⟨_,_,p⟩,ih⟩
section
variable {c:Cx} (G:Gd c L12.P) {n:Nat} {Q:AV→Zaa→Prop} {E:String→Zaa→Prop} {H:Zaa} {b rl t:Addr} {B:Bk} {pur:List Str} {rts:List Addr} {rs:List Rd} {tot:Int}
include G
theorem Zsa {EE:String→Zaa→Prop} {v0 v2 v3 v4 v5 v6 v7:Option AV} {r:Rd} {ks:List (Str×List (Str×Int))} (hr:Rw H t r.nm r.ps r.gs r.ns r.last) (rok:Zry pur r.nm r.ps r.gs r.ns r.last) (hb:H b=some (.book B)) (I:Inv pur ks B tot) (np:∀ s∈pur,isNm s=true) (nn:isNm r.nm=true) (hn:pAt B.pacts r.nm=none) (ho:∀ x∈B.pacts,x.state = .opn) (hd:B.day=0) (hl:B.pacts.length < 100)
    (q:∀ H',Kb b H H'→H' b=some (.book { B with pacts:=B.pacts ++ [r.pc] })→Inv pur (ks ++ [(r.nm,r.ps)]) { B with pacts:=B.pacts ++ [r.pc] } tot→Q .none H') :
    wpX ⟨c,n + 4,true⟩ (.meth (.var 1) "tell" [(.sub (.var 8) (.lit (.int 0))),(.prim .list [(.sub (.var 8) (.lit (.int 1)))]),(.prim .list [(.sub (.var 8) (.lit (.int 2)))]),(.prim .list [(.sub (.var 8) (.lit (.int 3)))]),(.sub (.var 8) (.lit (.int 4)))]) [v0,some (.ref b),v2,v3,v4,v5,v6,v7,some (.ref t)] Q EE H:=by
  have hM:c.P.meths=BK.meths:=by rw [G.hP];rfl
  obtain ⟨pl,gl,nl,ht,hp,hg,hnl⟩:=hr
  have l5:[AV.str r.nm,.ref pl,.ref gl,.ref nl,.int r.last].length≤1000:=(by decide:5≤1000)
  have l1:r.ps.length≤100:=Nat.le_trans rok.p.l.2 (by decide)
  have l2:r.gs.length≤100:=Nat.le_trans rok.g.l.2 (by decide)
  have l3:r.ns.length≤100:=Nat.le_trans rok.l3 (by decide)
  refine Zcx hM (by decide) (by decide) hb rfl ?_
  rw [Zac]
  refine row5 (j:=0) rfl ht l5 rfl ?_
  rw [Zac,Zak,Zac]
  refine row5 (j:=1) rfl ht l5 rfl ?_
  rw [Zaf]
  refine Zqj hp l1 fun z1 H1 E1 p1=>?_
  rw [Zac,Zak,Zac]
  refine row5 (j:=2) rfl (E1 _ _ ht) l5 rfl ?_
  rw [Zaf]
  refine Zqj (hg.ext E1) l2 fun z2 H2 E2 p2=>?_
  rw [Zac,Zak,Zac]
  refine row5 (j:=3) rfl (E2 _ _ (E1 _ _ ht)) l5 rfl ?_
  rw [Zaf]
  refine Zf1 (E2 _ _ (E1 _ _ hnl)) (Nat.le_trans l3 (by decide)) fun z3 hz3=>?_
  have E3:=Ext.refl.new (o:=.list (txs r.ns)) hz3
  have hn3:up H2 z3 (.list (txs r.ns)) z3=some (.list (txs r.ns)):=Zad
  generalize up H2 z3 (.list (txs r.ns))=H3 at E3 hn3
  have E13:=(E1.trans E2).trans E3
  rw [Zac]
  refine row5 (j:=4) rfl (E13 _ _ ht) l5 rfl ?_
  rw [Zaf]
  obtain ⟨ts,h1,p1⟩:=(p1.ext E2).ext E3
  obtain ⟨us,h2,p2⟩:=p2.ext E3
  refine Zxm G U12 rfl rfl rfl rfl (by rw [G.hP];rfl) (E13 _ _ hb) I.ok (Kv.nm nn) Kv.int h1 p1 h2 p2 hn3 (fun v hv=>?_) (by rw [Zek];exact Nat.le_trans l1 (by decide)) (by rw [Zek];exact Nat.le_trans l2 (by decide)) (by rw [Zan];exact Nat.le_trans l3 (by decide)) ?_
  · obtain ⟨s,hs,rfl⟩:=List.mem_map.mp hv
    exact Kv.nm (rok.nm s hs)
  · rw [Zvc rok I.fk np nn hn ho hd]
    refine q _ ((Kb.ext E13).trans .up) Zad (I.told (x:=r.pc) ⟨rok.p.k,fun e he=>⟨(rok.p.m e he).1,(rok.p.m e he).2.1⟩,fun e he=>⟨(rok.g.m e he).1,(rok.g.m e he).2.1⟩,rok.eq,(fun k hk=>by cases hk),List.nodup_nil,⟨rok.p.l.2,rok.g.l.2,rok.l3⟩,nn⟩ (fun z=>?_) hl)
    obtain ⟨e,he⟩:=Zln z
    rw [show pAt B.pacts r.pc.name=none from hn] at he
    cases he
theorem Zvx {many:Int} {nz sp:Addr} {ns:List Int} {wds:List Str} (hm:many=(pur.length:Nat)) (hs:H sp=some (.script ns)) (hl:ns.length≤63) (hb:H b=some (.book ⟨0,[],[],[]⟩)) (hnz:H nz=some (.list (txs (pur ++ wds)))) (e:pur.length=wds.length) (p0:0 < pur.length) (p1:pur.length≤12) (nd:pur.Nodup) (np:∀ s∈pur,isNm s=true) (nw:∀ s∈wds,isNm s=true) (wn:wds.Nodup)
    (q:∀ H' rl rts B tot ks,Kb b H H'→H' rl=some (.list (rts.map .ref))→Zdg H' rts B.pacts→H' b=some (.book B)→Inv pur ks B tot→B.pacts.length=wds.length→(∀ x∈B.pacts,1≤x.parts.length)→Q (.ref rl) H'):CallOK c (n + 5) true "_law_rows" [.ref sp,.ref b,.ref nz,.int many] Q E H:=by
  refine G.call (F:=L12.f__law_rows) rfl rfl ?_
  show wpSs _ _ _ _ _ [some (.ref sp),some (.ref b),some (.ref nz),some (.int many),none,none,none,none,none] _
  refine Z0o G hm hs hl hb hnz e p0 p1 nd np nw fun H1 pu rl rts rs tot B p6 p7 hK hpu hrl hR hn ok hb1 I hd=>?_
  have hrb:rl≠b:=fun z=>by rw [z,hb1] at hrl;cases hrl
  have hlr:rs.length=wds.length:=by rw [← hn,List.length_map]
  show wpSs _ (_ :: _) _ _ _ _ _
  refine w_st fun K nx=>?_
  dsimp only [Zbd]
  refine ⟨rfl,?_⟩
  dsimp only [Zae,List.getElem?_cons_succ,v_0,wtg]
  refine Zd0 (xs:=rts.map .ref) (by simp only [Zas,hrl]) (Tl H1 (some (.ref sp)) (some (.ref nz)) (some (.int many)) (some (.ref pu)) p6 p7 b rl pur rs tot) ⟨_,B,rfl,.refl,hb1,I,List.map_eq_nil_iff.mp I.kp,hd⟩ ?_
  rintro J hJ i V' H' ⟨p8,B',rfl,hK',hb',I',hp',hd'⟩
  refine ⟨(hK' _ _ hrb hrl).trans hrl.symm,fun hk=>nx _ _ ?_,fun y hy=>?_⟩
  · rw [List.length_map,hR.len] at hk
    rw [hk,List.take_length] at hp'
    have hR':=Zlf (Zvy hR) hb1 hK'
    rw [← hp'] at hR'
    refine q H' rl rts B' tot _ (hK.trans hK') (hK' _ _ hrb hrl) hR' hb' I' (by rw [hp',List.length_map,hlr]) fun x hx=>?_
    rw [hp'] at hx
    obtain ⟨r,hr,rfl⟩:=List.mem_map.mp hx
    exact (ok r hr).p.l.1
  rw [List.getElem?_map,Option.map_eq_some_iff] at hy
  obtain ⟨t,ht,rfl⟩:=hy
  obtain ⟨r,hr,hrw⟩:=hR.get ht
  have hrm:=List.mem_of_getElem? hr
  have hrn:r.nm∈wds:=by rw [← hn];exact List.mem_map.mpr ⟨r,hrm,rfl⟩
  have hnd:((rs.take i ++ [r]).map (·.nm)).Nodup:=by
    rw [← Za5 hr]
    refine List.Nodup.sublist ((List.take_sublist _ _).map _) ?_
    rw [hn];exact wn
  refine ⟨show 8 < 9 by decide,?_⟩
  dsimp only [Zax,Zal]
  refine Zsa G (hrw.kb hb1 hK') (ok r hrm) hb' I' np (nw _ hrn) (Zyd fun z=>?_) (fun x hx=>?_) hd' ?_ fun H2 K2 b2 I2=>?_
  · rw [hp',List.map_map] at z
    rw [List.map_append] at hnd
    exact (List.nodup_append.mp hnd).2.2 r.nm z r.nm (.head _) rfl
  · rw [hp'] at hx
    obtain ⟨y,_,rfl⟩:=List.mem_map.mp hx
    rfl
  · rw [hp',List.length_map,List.length_take];lia
  · refine hJ _ _ _ ⟨_,_,rfl,hK'.trans K2,b2,?_,?_,hd'⟩
    · rw [Za5 hr]
      unfold kpR at I2 ⊢
      rw [List.map_append];exact I2
    · rw [Za5 hr,List.map_append,← hp'];rfl
end
end Mine
end
section
open PySem PySem.W PyProof.Rows PySem.Spec PySem.SeqAt PySem.Calls
namespace Mine
open L12
structure gd (k:Nat) (d:PyData):Prop where
  f:Zkr d=true
  dp:d.depth≤k
  e:PyData.eqv d d=true
theorem Zzn {k:Nat} {l:List PyData} (h:∀ d∈l,gd k d):Zd8 l=true∧PyData.depthAll l≤k∧PyData.eqvAll l l=true:=by
  induction l with
  | nil=>exact ⟨rfl,Nat.zero_le _,rfl⟩
  | cons d l ih =>
    obtain ⟨h1,h2,h3⟩:=h d (.head _)
    obtain ⟨i1,i2,i3⟩:=ih fun x hx=>h x (.tail _ hx)
    refine ⟨?_,Nat.max_le.mpr ⟨h2,i2⟩,?_⟩
    · show (Zkr d && Zd8 l)=true
      rw [h1,i1];rfl
    · rw [Zzs,h3,i3];rfl
theorem gd_l {k:Nat} {l:List PyData} (h:∀ d∈l,gd k d):gd (k + 1) (.list l):=let ⟨a,b,c⟩:=Zzn h;⟨a,Nat.succ_le_succ b,c⟩
theorem gd_t {k:Nat} {l:List PyData} (h:∀ d∈l,gd k d):gd (k + 1) (.tuple l):=let ⟨a,b,c⟩:=Zzn h;⟨a,Nat.succ_le_succ b,c⟩
theorem gd_s {k:Nat} {s:Str}:gd k (.str s):=⟨rfl,Nat.zero_le _,beq_self_eq_true s⟩
theorem gd_i {k:Nat} {i:Int}:gd k (.int i):=⟨rfl,Nat.zero_le _,show PyData.eqv (dV (.int i)) (dV (.int i))=true from Zzr⟩
theorem Zm7 {α:Type} {k:Nat} {f:α→PyData} {l:List α} (h:∀ x,gd k (f x)):gd (k + 1) (.list (l.map f)):=gd_l fun d hd=>by
  obtain ⟨x,_,rfl⟩:=List.mem_map.mp hd
  exact h x
section
variable {H:Zaa} {Q:AV→Zaa→Prop}
theorem Zub {ne:Bool} {a b:Addr} {d:PyData} {k:Nat} {xs:List AV} (ht:H a=some (.tuple xs)) (ha:RD H (.ref a) d) (hb:RD H (.ref b) d) (h:gd k d) (hk:k≤64) (q:Q (.bool (nt ne true)) H):weq ne (.ref a) (.ref b) Q H:=by
  simp only [weq,ht]
  exact ⟨d,d,ha,hb,⟨h.f,Nat.le_trans h.dp hk⟩,⟨h.f,Nat.le_trans h.dp hk⟩,by rw [h.e];exact q⟩
theorem Zlh {α:Type} {f:α→AV} {g:α→PyData} {l:List α} (h:∀ x,RD H (f x) (g x)):RDs H (l.map f) (l.map g):=by
  induction l with
  | nil=>exact .nil
  | cons x l ih=>exact .cons (h x) ih
theorem Zv0 {us:List Addr} {ls:List (List Str)} (h:Zc2 H us ls):RDs H (us.map .ref) (ls.map fun l=>.list (l.map PyData.str)) :=
by
  refine h.ind (C:=fun us ls=>RDs H (us.map AV.ref) (ls.map fun (l:List Str)=>PyData.list (l.map PyData.str))) .nil fun a b as bs p ih=>?_
  exact .cons (.list p Zif) ih
noncomputable def d2 (pur:List Str) (F:Str→Int) (ls:List (List Str)):List PyData:=[.list (pur.map fun p=>.int (F p)),.list (ls.map fun l=>.list (l.map PyData.str))]
theorem gd_2 {pur:List Str} {F:Str→Int} {ls:List (List Str)}:∀ d∈d2 pur F ls,gd 2 d:=fun d hd=>by
  rcases List.mem_cons.mp hd with rfl | hd
  · exact Zm7 fun _=>gd_i
  · rw [List.mem_singleton.mp hd];exact Zm7 fun _=>Zm7 fun _=>gd_s
theorem rd_2 {pur:List Str} {F:Str→Int} {ls:List (List Str)} {f i:Addr} {us:List Addr} (hf:FrAt H f pur F) (hi:H i=some (.list (us.map .ref))) (hu:Zc2 H us ls) {r:List AV} {ds:List PyData} (hr:RDs H r ds):RDs H (.ref f :: .ref i :: r) (d2 pur F ls ++ ds) :=
  .cons (.list hf (Zlh fun _=>.int _)) (.cons (.list hi (Zv0 hu)) hr)
theorem Zvo {B:Bk} {pur:List Str} {t t':Addr} (S:Sn H t B pur) (S':Sn H t' B pur) (q:Q (.bool false) H):weq true (.ref t) (.ref t') Q H:=by
  obtain ⟨f,i,s,us,ht,hf,hi,hu,hs⟩:=S
  obtain ⟨f',i',s',us',ht',hf',hi',hu',hs'⟩:=S'
  refine Zub (k:=3) ht (.tuple ht (rd_2 hf hi hu (.cons (.list hs (Zlh fun _=>.str _)) .nil))) (.tuple ht' (rd_2 hf' hi' hu' (.cons (.list hs' (Zlh fun _=>.str _)) .nil))) (gd_t fun d hd=>?_) (by decide) q
  rcases List.mem_append.mp hd with hd | hd
  · exact gd_2 d hd
  · rw [List.mem_singleton.mp hd];exact Zm7 fun _=>gd_s
theorem Zsj {pur:List Str} {F:Str→Int} {ls:List (List Str)} {z d f i f' i':Addr} {us us':List Addr} (hz:H z=some (.tuple [.ref f,.ref i])) (hf:FrAt H f pur F) (hi:H i=some (.list (us.map .ref))) (hu:Zc2 H us ls) (hd:H d=some (.tuple [.ref f',.ref i'])) (hf':FrAt H f' pur F) (hi':H i'=some (.list (us'.map .ref))) (hu':Zc2 H us' ls) (q:Q (.bool false) H):weq true (.ref z) (.ref d) Q H :=
  Zub (k:=3) hz (.tuple hz (rd_2 hf hi hu .nil)) (.tuple hd (rd_2 hf' hi' hu' .nil)) (gd_t fun d hd=>by rw [List.append_nil] at hd;exact gd_2 d hd) (by decide) q
end
noncomputable def mix2 (B B':Bk) (f:Pc→List Str) (i:Nat):List (List Str):=(B'.pacts.take i).map Zat ++ (B.pacts.drop i).map f
section
variable {B B':Bk} {f:Pc→List Str} {i:Nat} {x y:Pc}
theorem Zfm (h:B.pacts[i]? = some x) (h':B'.pacts[i]? = some y):mix2 B B' f i=(B'.pacts.take i).map Zat ++ f x :: (B.pacts.drop (i + 1)).map f∧mix2 B B' f (i + 1)=(B'.pacts.take i).map Zat ++ Zat y :: (B.pacts.drop (i + 1)).map f:=by
  obtain ⟨hl,he⟩:=List.getElem?_eq_some_iff.mp h
  unfold mix2
  constructor
  · rw [List.drop_eq_getElem_cons hl,he];rfl
  · rw [Za5 h',List.map_append,List.append_assoc];rfl
theorem Zqa (h:B.pacts[i]? = some x) (h':B'.pacts[i]? = some y) (e:Zat y=f x):mix2 B B' f (i + 1)=mix2 B B' f i:=by
  rw [(Zfm h h').1,(Zfm h h').2,e]
theorem Zs4 (h:B.pacts[i]? = some x) (h':B'.pacts[i]? = some y) (e:Zat y=[]):mix2 B B' f (i + 1)=(mix2 B B' f i).set i []:=by
  have hl:((B'.pacts.take i).map Zat).length=i:=by
    have:=(List.getElem?_eq_some_iff.mp h').1
    rw [List.length_map,List.length_take];lia
  rw [(Zfm (f:=f) h h').1,(Zfm h h').2,e,List.set_append_right _ _ (Nat.le_of_eq hl),hl,Nat.sub_self]
  rfl
end
theorem Zvj {x y:Sta} (h:x.str=y.str):x=y:=by
  cases x <;> cases y <;> first | rfl | exact absurd h (by decide)
theorem Zqs {H H':Zaa} {us:List Addr} {ls:List (List Str)} {i:Nat} {u:Addr} (h:Zc2 H us ls) (nu:us.Nodup) (hu:us[i]? = some u) (k:∀ a l,a≠u→H a=some (.list (txs l))→H' a=some (.list (txs l))) (hn:H' u=some (.list [])):Zc2 H' us (ls.set i []):=by
  induction us generalizing ls i with
  | nil=>cases hu
  | cons z us ih =>
    cases ls with
    | nil=>exact h.elim
    | cons l ls =>
      obtain ⟨n1,n2⟩:=List.nodup_cons.mp nu
      cases i with
      | zero =>
        cases hu
        refine ⟨hn,?_⟩
        have:∀ {vs:List Addr} {ms:List (List Str)},u ∉ vs→Zc2 H vs ms→Zc2 H' vs ms:=fun {vs ms} hz hv=>by
          induction vs generalizing ms with
          | nil=>cases ms with
            | nil=>trivial
            | cons=>exact hv.elim
          | cons a vs ih=>cases ms with
            | nil=>exact hv.elim
            | cons m ms=>exact ⟨k _ _ (fun e=>hz (e ▸ .head _)) hv.1,ih (fun q=>hz (.tail _ q)) hv.2⟩
        exact this n1 h.2
      | succ i =>
        have hm:u∈us:=List.mem_of_getElem? hu
        exact ⟨k _ _ (fun e=>n1 (e ▸ hm)) h.1,ih h.2 n2 hu⟩
noncomputable abbrev forB:S→List S
  | .for _ _ b=>b
  | _=>[]
noncomputable abbrev lawB:List S:=forB (L12.f_law.body.getD 9 .pass)
structure Vw (W:VV) (pu rl t t' d:Addr) (w:Int) (m:Nat):Prop where
  l:17 < W.length
  v2:W[2]? = some (some (.int m))
  v4:W[4]? = some (some (.ref pu))
  v5:W[5]? = some (some (.ref rl))
  v7:W[7]? = some (some (.ref t))
  v10:W[10]? = some (some (.int w))
  v15:W[15]? = some (some (.ref t'))
  v16:W[16]? = some (some (.ref d))
theorem at17 {W:VV} {p v:Option AV} {i:Nat} (hi:i≠17) (h:W[i]? = some v):(W.set 17 p)[i]? = some v:=by rw [List.getElem?_set_ne hi.symm];exact h
inductive Lp (H0:Zaa) (W:VV) (d fl il zr:Addr) (us:List Addr) (pur:List Str) (F:Nat→Str→Int) (N:Nat→List (List Str)) (m:Int) (i:Nat) (V':VV) (H':Zaa):Prop
  | mk (p:Option AV) (hV:V'=W.set 17 p) (hE:Ext H0 H') (hd:H' d=some (.tuple [.ref fl,.ref il])) (hf:FrAt H' fl pur (F i)) (hi:H' il=some (.list (us.map .ref))) (hu:Zc2 H' us (N i)) (hr:H' zr=some (.range 0 m))
section
variable {g:Gx} {V:VV} {Q:AV→Zaa→Prop} {E:String→Zaa→Prop} {H:Zaa}
theorem Ziw {i:Nat} {v:AV} (h:V[i]? = some (some v)) (q:Q v H):wpX g (.var i) V Q E H:=by rw [Zae,h];exact q
theorem Zxr {i l m:Nat} {a:Addr} {xs:List AV} {v:AV} (hi:V[i]? = some (some (.ref a))) (hl:V[l]? = some (some (.int m))) (ha:H a=some (.list xs)) (hx:xs.length≤1000) (hv:xs[m]? = some v) (q:Q v H):wpX g (.sub (.var i) (.var l)) V Q E H:=by
  rw [Zar]
  refine Ziw hi (Ziw hl (Zex ha hv hx q))
theorem sub2 {i j l m:Nat} {t a:Addr} {ts xs:List AV} {v:AV} (hi:V[i]? = some (some (.ref t))) (hl:V[l]? = some (some (.int m))) (ht:H t=some (.tuple ts)) (hts:ts.length≤1000) (hj:ts[j]? = some (.ref a)) (ha:H a=some (.list xs)) (hx:xs.length≤1000) (hv:xs[m]? = some v) (q:Q v H):wpX g (.sub (.sub (.var i) (.lit (.int j))) (.var l)) V Q E H:=by
  rw [Zar]
  exact row5 hi ht hts hj (Ziw hl (Zex ha hv hx q))
end
theorem Zs5 {B B':Bk} {f:Pc→List Str} {i:Nat} (h:B.pacts.length≤100) (h':B'.pacts.length=B.pacts.length):(mix2 B B' f i).length≤1000:=by
  unfold mix2
  rw [List.length_append,List.length_map,List.length_map]
  exact Nat.le_trans (Nat.add_le_add (Nat.le_trans (List.length_take_le' _ _) (Nat.le_trans (Nat.le_of_eq h') h)) (Nat.le_trans (Nat.le_of_eq List.length_drop) (Nat.le_trans (Nat.sub_le _ _) h))) (by decide)
theorem Zwg {B B':Bk} {f:Pc→List Str} {i:Nat} {x y:Pc} (h:B.pacts[i]? = some x) (h':B'.pacts[i]? = some y):(mix2 B B' f i)[i]? = some (f x):=by
  have hl:((B'.pacts.take i).map Zat).length=i:=by
    have:=(List.getElem?_eq_some_iff.mp h').1
    rw [List.length_map,List.length_take,Nat.min_eq_left (Nat.le_of_lt this)]
  rw [(Zfm h h').1,List.getElem?_append_right (Nat.le_of_eq hl),hl,Nat.sub_self];rfl
section
variable {c:Cx} (G:Gd c L12.P) {n:Nat} {H0 H1:Zaa} {rl pu t t' d:Addr} {B B':Bk} {pur:List Str} {ks:List (Str×List (Str×Int))} {tot w:Int} {rts:List Addr} {f:Pc→List Str} {F:Str→Int} {QN:VV→Zaa→Prop} {QR:AV→Zaa→Prop} {EE:String→VV→Zaa→Prop} {W:VV}
include G
theorem Zzt {m:Nat} (hW:Vw W pu rl t t' d w m) (S:Sn H0 t B pur) (S':Sn H0 t' B' pur) (I:Inv pur ks B tot) (p0:0 < pur.length) (hpu:H0 pu=some (.list (txs pur))) (hr:H0 rl=some (.list (rts.map .ref))) (hR:Zdg H0 rts B.pacts) (len:B'.pacts.length=B.pacts.length)
    (hm:B.pacts.length=m) (p:∀ (j:Nat) (x:Pc),B.pacts[j]? = some x→∃ y,B'.pacts[j]? = some y∧((y.state=x.state∧Zat y=f x)∨(y.state≠x.state∧x.state = .opn∧Zat y=[]∧(11≤w∧y.state = .fln∨(w=7∨w=8)∧y.state = .dn∧Zet x=true))))
    (hfx:∀ x∈B.pacts,(f x).length≤1000) (e1:Ext H0 H1) (D:Due H0 H1 d pur F (B.pacts.map f))
    (q:∀ H2 p17,Ext H0 H2→Due H0 H2 d pur (fun s=>F s + sm (List.range B.pacts.length) (chg B B' s)) (B'.pacts.map Zat)→QN (W.set 17 p17) H2) :
    wpS ⟨c,n + 5,true⟩ (lawB.getD 11 .pass) QN QR EE W H1:=by
  subst hm
  obtain ⟨sf,si,ss,sus,ht,hsf,hsi,hsu,hss⟩:=S
  obtain ⟨sf',si',ss',sus',ht',hsf',hsi',hsu',hss'⟩:=S'
  obtain ⟨fl,il,us,hd,nf,ni,hf,hi,hu,nu,n0⟩:=D
  have hlen:=I.len
  have h1000:B.pacts.length≤1000:=Nat.le_trans hlen (by decide)
  have l3:∀ {a b c:AV},[a,b,c].length≤1000:=fun {a b c}=>(by decide:3≤1000)
  refine ⟨rfl,?_⟩
  rw [Zak,Zac]
  refine Ziw hW.v2 ?_
  rw [Zaf]
  refine Zlm (Int.natCast_nonneg _) (Int.ofNat_le.mpr (Nat.le_trans hlen (by decide))) fun zr H2 hzr E2 hzr2=>?_
  have hW0:W=W.set 17 (W[17]'hW.l):=(List.set_getElem_self hW.l).symm
  refine Znj hzr2 (Lp H0 W d fl il zr us pur (fun i s=>F s + sm (List.range i) (chg B B' s)) (mix2 B B' f) B.pacts.length) ⟨_,hW0,e1.trans E2,E2 _ _ hd,Zbr (E2 _ _ hf) fun s=>(by rw [List.range_zero,Zxw,Int.add_zero]),E2 _ _ hi,Zcd hu E2,hzr2⟩ ?_
  rintro J hJ i V' H' ⟨p17,rfl,hE,hd',hf',hi',hu',hzr'⟩
  refine ⟨hzr',fun hk=>?_,fun hk=>⟨by rw [List.length_set];exact hW.l,?_⟩⟩
  · rw [Int.toNat_natCast] at hk
    refine q H' p17 hE ⟨fl,il,us,hd',nf,ni,by rw [← hk];exact hf',hi',?_,nu,n0⟩
    have:mix2 B B' f i=B'.pacts.map Zat:=by
      unfold mix2
      rw [hk,← len,List.take_length,len,List.drop_length,List.map_nil,List.append_nil]
    rw [← this];exact hu'
  rw [Int.toNat_natCast] at hk
  rw [List.set_set]
  have hx:=List.getElem?_eq_getElem hk
  generalize B.pacts[i]=x at hx
  obtain ⟨y,hy,hc⟩:=p i x hx
  have px:(B.pacts.map fun x=>AV.str x.state.str)[i]? = some (.str x.state.str):=by rw [List.getElem?_map,hx];rfl
  have py:(B'.pacts.map fun x=>AV.str x.state.str)[i]? = some (.str y.state.str):=by rw [List.getElem?_map,hy];rfl
  have lx:(B.pacts.map fun x=>AV.str x.state.str).length≤1000:=by rw [List.length_map];exact h1000
  have ly:(B'.pacts.map fun x=>AV.str x.state.str).length≤1000:=by rw [List.length_map,len];exact h1000
  have i17:(W.set 17 (some (.int i)))[17]? = some (some (.int i)):=List.getElem?_set_self hW.l
  have i7:=at17 (p:=some (.int i)) (by decide) hW.v7
  have i15:=at17 (p:=some (.int i)) (by decide) hW.v15
  have i16:=at17 (p:=some (.int i)) (by decide) hW.v16
  have i5:=at17 (p:=some (.int i)) (by decide) hW.v5
  have i10:=at17 (p:=some (.int i)) (by decide) hW.v10
  have i4:=at17 (p:=some (.int i)) (by decide) hW.v4
  generalize hV:W.set 17 (some (.int i))=V at i17 i7 i15 i16 i5 i10 i4
  show wpSs _ [_] _ _ _ V _
  rw [Zax,Zay,Zap]
  refine sub2 (j:=2) i15 i17 (hE _ _ ht') l3 rfl (hE _ _ hss') ly py ?_
  refine sub2 (j:=2) i7 i17 (hE _ _ ht) l3 rfl (hE _ _ hss) lx px ?_
  rw [Zdn,Zai]
  rcases hc with ⟨h1,h2⟩ | ⟨h1,h2,h3,h4⟩
  · refine Eq.mpr (if_neg (by rw [h1,bne_self_eq_false];exact Bool.false_ne_true)) ?_
    refine hJ _ _ _ ⟨_,hV.symm,hE,hd',Zbr hf' fun s=>?_,hi',by rw [Zqa hx hy h2];exact hu',hzr'⟩
    rw [Zjb,Zkz hx hy,if_pos h1,Int.add_zero]
  · refine Eq.mpr (if_pos (bne_iff_ne.mpr fun e=>h1 (Zvj e))) ?_
    obtain ⟨tr,htr,ns,last,hrow⟩:=hR.getR hx
    obtain ⟨su,hsu1,hsu2⟩:=hsu.getR (j:=i) (b:=Zat x) (by rw [List.getElem?_map,hx];rfl)
    obtain ⟨u,hui,huv⟩:=hu'.getR (j:=i) (b:=f x) (Zwg hx hy)
    have hfl:=hfx x (List.mem_of_getElem? hx)
    have hum:=List.mem_of_getElem? hui
    refine w_st fun K nx=>?_
    rw [Zay,Zbb,Zam,Zac]
    refine Zxr (v:=.ref tr) i5 i17 (hE _ _ hr) (by rw [List.length_map,hR.len];exact h1000) (by rw [List.getElem?_map,htr];rfl) ?_
    rw [Zac]
    refine sub2 (j:=1) (v:=.ref su) i7 i17 (hE _ _ ht) l3 rfl (hE _ _ hsi) (by rw [List.length_map,hsu.len,List.length_map];exact h1000) (by rw [List.getElem?_map,hsu1];rfl) ?_
    rw [Zac]
    refine Ziw i10 ?_
    rw [Zac]
    refine sub2 (j:=2) i7 i17 (hE _ _ ht) l3 rfl (hE _ _ hss) lx px ?_
    rw [Zac]
    refine sub2 (j:=2) i15 i17 (hE _ _ ht') l3 rfl (hE _ _ hss') ly py ?_
    rw [Zac]
    refine row5 (j:=0) i16 hd' (show 2≤1000 by decide) rfl ?_
    rw [Zac]
    refine Ziw i4 ?_
    rw [Zaf,h2]
    refine Ztu (n:=n + 4) (H0:=H0) G hE nf I.nd I.pl hpu (I.at hx) hrow hsu2 hf' h4 fun H3 k3 hf3=>?_
    rw [Zai,Zai]
    refine Eq.mpr (if_neg (by decide)) (nx _ _ ?_)
    have dn:d≠fl:=fun z=>by rw [z,hf'] at hd';cases hd'
    have zn:zr≠fl:=fun z=>by rw [z,hf'] at hzr';cases hzr'
    have un:∀ {a l},H' a=some (.list (txs l))→a≠fl:=fun h=>Ztr p0 hf' Zue h
    have hi3:=k3 _ _ (Ztr p0 hf' Zu2 hi') hi'
    have hu3:=k3 _ _ (un huv) huv
    have hd3:=k3 _ _ dn hd'
    rw [Zax,Zal,x_bm]
    refine sub2 (j:=1) (v:=.ref u) i16 i17 hd3 (show 2≤1000 by decide) rfl hi3 (by rw [List.length_map,hu'.len];exact Zs5 hlen len) (by rw [List.getElem?_map,hui];rfl) ?_
    refine ⟨?_,?_⟩
    · show match H3 u with | some (.list _)=>_ | some (.dict _ _)=>_ | _=>False
      rw [hu3];exact .inr (.inl rfl)
    rw [Zaf,Zyz,hu3]
    refine ⟨by rw [Zan];exact Nat.le_trans hfl (by decide),?_⟩
    have hE3:Ext H0 H3:=fun a o h=>k3 a o (Zc6 h nf) (hE a o h)
    have ud:d≠u:=fun z=>by rw [z,hu3] at hd3;cases hd3
    have uz:zr≠u:=fun z=>by rw [z,huv] at hzr';cases hzr'
    have uf:fl≠u:=fun z=>un huv z.symm
    refine hJ _ _ _ ⟨_,hV.symm,hE3.own (n0 u hum),by rw [Zab ud];exact hd3,Zbr (F:=fun s=>F s + sm (List.range i) (chg B B' s) + sAt (back x y.state) s) (by unfold FrAt;rw [Zab uf];exact hf3) fun s=>?_,?_,?_,by rw [Zab uz];exact k3 _ _ zn hzr'⟩
    · rw [Zjb,Zkz hx hy,if_neg h1,Int.add_assoc]
    · rw [Zab fun z=>by rw [z,hu3] at hi3;exact Zie hum (AObj.list.inj (Option.some.inj hi3)).symm]
      exact hi3
    · rw [Zs4 hx hy h3]
      exact Zqs hu' nu hui (fun a l ha h=>by rw [Zab ha];exact k3 _ _ (un h) h) Zad
end
end Mine
end
section
open PySem PySem.W PyProof.Rows PySem.Spec PySem.SeqAt PySem.Calls
namespace Mine
open L12
theorem Sn.ext {H H':Zaa} {t:Addr} {B:Bk} {pur:List Str} (S:Sn H t B pur) (e:Ext H H'):Sn H' t B pur :=
  let ⟨f,i,s,us,ht,hf,hi,hu,hs⟩:=S
  ⟨f,i,s,us,e _ _ ht,e _ _ hf,e _ _ hi,Zcd hu e,e _ _ hs⟩
theorem Sn.kb {H H':Zaa} {t b:Addr} {B B0:Bk} {pur:List Str} (S:Sn H t B pur) (hb:H b=some (.book B0)) (e:Kb b H H'):Sn H' t B pur :=
  have ne:∀ {y x},H y=some x→x.isB=false→y≠b:=fun h hx q=>by rw [q,hb] at h;cases h;cases hx
  let ⟨f,i,s,us,ht,hf,hi,hu,hs⟩:=S
  ⟨f,i,s,us,e _ _ (ne ht rfl) ht,e _ _ (ne hf rfl) hf,e _ _ (ne hi rfl) hi,hu.map fun h=>e _ _ (ne h rfl) h,e _ _ (ne hs rfl) hs⟩
theorem All2.swap {α β:Type} {p:α→β→Prop} {as:List α} {bs bs':List β} (h:All2 p as bs) (hl:bs'.length=bs.length) (hs:∀ (j:Nat) (b:β),bs[j]? = some b→∃ b',bs'[j]? = some b'∧∀ a,p a b→p a b'):All2 p as bs':=by
  induction bs generalizing as bs' with
  | nil=>cases bs' with
    | nil=>exact h
    | cons=>cases hl
  | cons b bs ih=>cases bs' with
    | nil=>cases hl
    | cons b' bs'=>cases as with
      | nil=>exact h.elim
      | cons a as =>
        obtain ⟨y,hy,hp⟩:=hs 0 b rfl
        cases hy
        exact ⟨hp a h.1,ih h.2 (Nat.succ.inj hl) fun j b hb=>hs (j + 1) b hb⟩
structure Ls (ns:List Int) (pur:List Str) (ks:List (Str×List (Str×Int))) (H:Zaa) (sp b pu rl:Addr) (tot:Int) (rts:List Addr) (B:Bk):Prop where
  s:H sp=some (.script ns)
  b:H b=some (.book B)
  pu:H pu=some (.list (txs pur))
  rl:H rl=some (.list (rts.map .ref))
  R:Zdg H rts B.pacts
  I:Inv pur ks B tot
  m:B.pacts.length=pur.length
  p1:∀ x∈B.pacts,1≤x.parts.length
section
variable {ns:List Int} {pur:List Str} {ks:List (Str×List (Str×Int))} {H H':Zaa} {sp b pu rl:Addr} {tot tot':Int} {rts:List Addr} {B B':Bk}
theorem Ls.ext (L:Ls ns pur ks H sp b pu rl tot rts B) (e:Ext H H'):Ls ns pur ks H' sp b pu rl tot rts B :=
  ⟨e _ _ L.s,e _ _ L.b,e _ _ L.pu,e _ _ L.rl,Zem L.R e,L.I,L.m,L.p1⟩
theorem Ls.eff {w:Int} {k nm:Str} {d:Int} (L:Ls ns pur ks H sp b pu rl tot rts B) (e:Kb b H H') (hb:H' b=some (.book B')) (I:Inv pur ks B' tot') (f:Eff w k nm d B B'):Ls ns pur ks H' sp b pu rl tot' rts B':=by
  have ne:∀ {y x},H y=some x→x.isB=false→y≠b:=fun h hx q=>by rw [q,L.b] at h;cases h;cases hx
  refine ⟨e _ _ (ne L.s rfl) L.s,hb,e _ _ (ne L.pu rfl) L.pu,e _ _ (ne L.rl rfl) L.rl,(Zlf L.R L.b e).swap f.len fun j x hx=>?_,I,f.len.trans L.m,fun y hy=>?_⟩
  · obtain ⟨y,hy,hn,_⟩:=f.p j x hx
    obtain ⟨n1,n2⟩:=Prod.mk.inj hn
    obtain ⟨n2,n3⟩:=Prod.mk.inj n2
    exact ⟨y,hy,fun a h=>by rw [n1,n2,n3];exact h⟩
  · obtain ⟨j,hj,rfl⟩:=List.mem_iff_getElem.mp hy
    have hj':j < B.pacts.length:=f.len ▸ hj
    obtain ⟨z,hz,hn,_⟩:=f.p j _ (List.getElem?_eq_getElem hj')
    rw [List.getElem?_eq_getElem hj] at hz
    rw [Option.some.inj hz,(Prod.mk.inj (Prod.mk.inj hn).2).1]
    exact L.p1 _ (List.getElem_mem hj')
theorem Z0p {Q:AV→Zaa→Prop} {i:Int} (L:Ls ns pur ks H sp b pu rl tot rts B) (h0:0≤i) (h1:i < pur.length) (q:∀ t (j:Nat) (x:Pc),B.pacts[j]? = some x→(∃ ns last,Rw H t x.name x.parts x.gains ns last)→Q (.ref t) H):wsub (.ref rl) (.int i) Q H:=by
  have hl:=L.I.len
  have hlt:i.toNat < B.pacts.length:=by rw [L.m];lia
  obtain ⟨t,ht,hr⟩:=L.R.getR (List.getElem?_eq_getElem hlt)
  have:=Zex (j:=i.toNat) (Q:=Q) L.rl (v:=.ref t) (by rw [List.getElem?_map,ht];rfl) (by rw [List.length_map,L.R.len];lia) (q t i.toNat _ (List.getElem?_eq_getElem hlt) hr)
  rw [Int.toNat_of_nonneg h0] at this
  exact this
theorem Zpq {g:Gx} {V:VV} {Q:AV→Zaa→Prop} {E:String→Zaa→Prop} {i:Nat} {e:X} {x:Int} {t:Addr} {nm:Str} {ps gs:List (Str×Int)} {nds:List Str} {last:Int} (R:Rw H t nm ps gs nds last) (l0:1≤ps.length) (l1:ps.length≤100) (hV:V[i]? = some (some (.ref t))) (he:∀ Q E,Q (.int x) H→wpX g e V Q E H) (q:∀ k∈ps.map (·.1),Q (.str k) H) :
    wpX g (.sub (.sub (.sub (.var i) (.lit (.int 1))) (.bin .Mod e (.prim .len [.sub (.var i) (.lit (.int 1))]))) (.lit (.int 0))) V Q E H:=by
  obtain ⟨pl,gl,nl,ht,⟨ts,hp,pp⟩,hg,hn⟩:=R
  have l5:[AV.str nm,.ref pl,.ref gl,.ref nl,.int last].length≤1000:=(by decide:5≤1000)
  have hlen:ts.length=ps.length:=by rw [Zb9 pp,Zek]
  dsimp only [Zar]
  refine row5 (j:=1) hV ht l5 rfl ?_
  dsimp only [Zau]
  refine he _ _ ?_
  dsimp only [Zak,Zac]
  refine row5 (j:=1) hV ht l5 rfl ?_
  dsimp only [Zaf]
  refine Zps hp (by rw [List.length_map,hlen];exact Nat.le_trans l1 (by decide)) ?_
  rw [List.length_map]
  have c0:(0:Int) < (ts.length:Nat):=by lia
  refine ⟨by lia,?_⟩
  have i0:=Za6 (x:=x) c0
  have i1:=Zbe (x:=x) c0
  have hlt:(x.fmod (ts.length:Nat)).toNat < ts.length:=by lia
  obtain ⟨e,he,_,htt,k1,k2⟩:=Zdb pp (List.getElem?_eq_getElem hlt)
  obtain ⟨y,hy,rfl⟩:=List.mem_map.mp (List.mem_of_getElem? he)
  rw [← Int.toNat_of_nonneg i0]
  refine Zex (v:=.ref ts[(x.fmod (ts.length:Nat)).toNat]) hp (by rw [List.getElem?_map,List.getElem?_eq_getElem hlt];rfl) (by rw [List.length_map,hlen];exact Nat.le_trans l1 (by decide)) ?_
  dsimp only [Zah]
  exact Zjx (j:=0) htt rfl (show 2≤1000 by decide) (q _ (List.mem_map_of_mem hy))
end
inductive Li (ns:List Int) (pur:List Str) (ks:List (Str×List (Str×Int))) (sp b pu rl zr:Addr) (v3 v6:Option AV) (mx:Int) (k:Nat) (V':VV) (H':Zaa):Prop
  | mk (p8 p9 p10 p11 p12 p13 p14 p15 p16 p17:Option AV) (tot:Int) (t:Addr) (rts:List Addr) (B:Bk) (hV:V'=[some (.ref sp),some (.ref b),some (.int (pur.length:Nat)),v3,some (.ref pu),some (.ref rl),v6,some (.ref t),p8,p9,p10,p11,p12,p13,p14,p15,p16,p17]) (L:Ls ns pur ks H' sp b pu rl tot rts B) (S:Sn H' t B pur) (hz:H' zr=some (.range 0 mx))
theorem Zxs {H:Zaa} {Q:AV→Zaa→Prop} {sp:Addr} {ns:List Int} {k:Nat} (h:H sp=some (.script ns)) (hk:k < ns.length) (hl:ns.length≤1000) (q:∀ i,Q (.int i) H):wsub (.ref sp) (.int k) Q H:=by
  (dsimp only [Zfb];rw [h])
  exact ⟨Int.natCast_nonneg k,by lia,ns[k],by rw [Int.toNat_natCast];exact List.getElem?_eq_getElem hk,q _⟩
theorem Zu1 {H:Zaa} {Q:AV→Zaa→Prop} {sp:Addr} {ns:List Int} {md:Bool} (h:H sp=some (.script ns)) (hl:ns.length≤1000) (q:Q (.int ns.length) H):Zdz md .len [.ref sp] Q H:=by
  (dsimp only [Zgc];rw [h])
  exact ⟨by lia,q⟩
section
variable {c:Cx} (G:Gd c L12.P) {n:Nat} {QR:AV→Zaa→Prop} {EE:String→VV→Zaa→Prop} {H:Zaa} {sp b pu rl zr t:Addr} {ns:List Int} {pur:List Str} {ks:List (Str×List (Str×Int))} {mx tot:Int} {rts:List Addr} {B:Bk} {v3 v6:Option AV}
include G
theorem law_rest {I:VV→Zaa→Prop} {v8 p15 p16 p17:Option AV} {x w a tot1:Int} {k nm:Str} {good:Bool} {j0:Nat} {x0:Pc} {B1:Bk} {tr:Addr} (np:∀ s∈pur,isNm s=true) (p0:0 < pur.length) (I0:Inv pur ks B tot) (L:Ls ns pur ks H sp b pu rl tot1 rts B1) (hR:Zdg H rts B.pacts) (S:Sn H t B pur) (hz:H zr=some (.range 0 mx)) (w0:0≤w) (hk:k∈pur) (hx:pAt B.pacts nm=some (j0,x0)) (ht:∃ r,H tr=some (.tuple (.str nm :: r))∧r.length≤10)
    (hg:(good=false∧B1=B)∨(good=true∧Eff w k nm (dK w a (sAt x0.parts k)) B B1))
    (hI:∀ H' t p9 p10 p11 p12 p13 p14 p15 p16 p17,Ls ns pur ks H' sp b pu rl tot1 rts B1→Sn H' t B1 pur→H' zr=some (.range 0 mx)→I [some (.ref sp),some (.ref b),some (.int (pur.length:Nat)),v3,some (.ref pu),some (.ref rl),v6,some (.ref t),v8,p9,p10,p11,p12,p13,p14,p15,p16,p17] H') :
    wpSs ⟨c,n + 5,true⟩ (lawB.drop 7) I QR EE [some (.ref sp),some (.ref b),some (.int (pur.length:Nat)),v3,some (.ref pu),some (.ref rl),v6,some (.ref t),v8,some (.int x),some (.int w),some (.ref tr),some (.str k),some (.int a),some (.bool good),p15,p16,p17] H:=by
  have mB:B.pacts.length=pur.length:=by
    rcases hg with ⟨_,e⟩ | ⟨_,e⟩
    · rw [← e];exact L.m
    · rw [← e.len];exact L.m
  have lB:∀ x∈B.pacts,(Zat x).length≤1000:=fun x hx=>by
    unfold Zat
    rw [List.length_map]
    exact Nat.le_trans (List.length_filter_le _ _) (Nat.le_trans (I0.pc x hx).ln.1 (by decide))
  show wpSs _ (_ :: _) _ _ _ _ _
  refine w_st fun K nx=>?_
  dsimp only [Zaj,Zam]
  dsimp only [tv,List.length_cons,List.length_nil,Nat.reduceAdd,List.set_cons_succ,List.set_cons_zero,Zac,Zaf,Zau,Zah,Zae,List.getElem?_cons_succ,v_0,Zb1,ne_eq]
  refine ⟨by decide,?_⟩
  refine Zo8 (n:=n + 1) G L.b L.I np L.pu L.rl L.R fun H1 t' E1 S'=>⟨show 15 < 18 by decide,nx _ _ ?_⟩
  have L1:=L.ext E1
  have S1:=S.ext E1
  have R1:=Zem hR E1
  have hz1:=E1 _ _ hz
  obtain ⟨r,htr,hrl⟩:=ht
  have htr1:=E1 _ _ htr
  refine w_st fun K nx=>?_
  suffices go:K [some (.ref sp),some (.ref b),some (.int (pur.length:Nat)),v3,some (.ref pu),some (.ref rl),v6,some (.ref t),v8,some (.int x),some (.int w),some (.ref tr),some (.str k),some (.int a),some (.bool good),some (.ref t'),p16,p17] H1 by
    dsimp only [Zay]
    dsimp only [x_ao,Zaz,Zba,Zap,Zae,List.getElem?_cons_succ,v_0,Zbb,Zai,Bool.not_eq_eq_eq_not,Bool.not_true]
    rcases hg with ⟨hf,e⟩ | ⟨hf,e⟩
    · refine Eq.mpr (if_pos (by rw [hf];rfl)) ?_
      dsimp only [Zzx]
      rw [e] at S'
      refine Zvo S' S1 ?_
      dsimp only [Zai]
      exact Eq.mpr (if_neg (by decide)) go
    · exact Eq.mpr (if_neg (by rw [hf];decide)) (Eq.mpr (if_neg (by rw [hf];decide)) go)
  refine nx _ _ ?_
  obtain ⟨f,ia,sa,us0,ht0,hf,hi,hu,hs⟩:=id S1
  refine w_st fun K nx=>?_
  dsimp only [Zaj,Zbc,Zac,Zak]
  refine row5 (j:=0) rfl ht0 (show 3≤1000 by decide) rfl ?_
  dsimp only [Zaf]
  refine Zmm hf (by rw [List.length_map];exact Nat.le_trans I0.pl (by decide)) fun fl hfl=>?_
  have E2:=Ext.refl.new (o:=.list (pur.map fun p=>.int (vl B.free p))) hfl
  have f2:FrAt (up H1 fl (.list (pur.map fun p=>.int (vl B.free p)))) fl pur (vl B.free):=Zad
  generalize up H1 fl (.list (pur.map fun p=>.int (vl B.free p)))=H2 at E2 f2
  refine Zkx (m:=18) rfl rfl (fun Q' h=>row5 (j:=1) rfl (E2 _ _ ht0) (show 3≤1000 by decide) rfl h) (E2 _ _ hi) (Zcd hu E2) (by rw [hu.len,List.length_map];exact I0.len) (fun l hl=>?_) fun H3 il vs E3 nil h3 hv nv n0=>?_
  · obtain ⟨x,hxm,rfl⟩:=List.mem_map.mp hl
    exact lB x hxm
  intro d hd
  refine ⟨show 16 < 18 by decide,nx _ _ ?_⟩
  have Ed:=Ext.refl.new (o:=.tuple [.ref fl,.ref il]) hd
  have hd3:up H3 d (.tuple [.ref fl,.ref il]) d=some (.tuple [.ref fl,.ref il]):=Zad
  generalize up H3 d (.tuple [.ref fl,.ref il])=H4 at Ed hd3
  have E24:=E3.trans Ed
  have E14:=E2.trans E24
  have D0:Due H1 H4 d pur (vl B.free) (B.pacts.map Zat):=⟨fl,il,vs,hd3,hfl,E2.none nil,E24 _ _ f2,Ed _ _ h3,Zcd hv Ed,nv,fun v hv=>E2.none (n0 v hv)⟩
  refine w_st fun K nx=>?_
  suffices go:∀ H0 H5 d F f,Ext H1 H0→Ext H0 H5→Due H0 H5 d pur F (B.pacts.map f)→(∀ x∈B.pacts,(f x).length≤1000)→(∀ (j:Nat) (x:Pc),B.pacts[j]? = some x→∃ y,B1.pacts[j]? = some y∧((y.state=x.state∧Zat y=f x)∨(y.state≠x.state∧x.state = .opn∧Zat y=[]∧(11≤w∧y.state = .fln∨(w=7∨w=8)∧y.state = .dn∧Zet x=true))))→(∀ s,F s + sm (List.range B.pacts.length) (chg B B1 s)=vl B1.free s)→K [some (.ref sp),some (.ref b),some (.int (pur.length:Nat)),v3,some (.ref pu),some (.ref rl),v6,some (.ref t),v8,some (.int x),some (.int w),some (.ref tr),some (.str k),some (.int a),some (.bool good),some (.ref t'),some (.ref d),p17] H5 by
    dsimp only [Zay]
    dsimp only [List.set_cons_succ,List.set_cons_zero,Zae,List.getElem?_cons_succ,v_0,Zai]
    rcases hg with ⟨hf,e⟩ | ⟨hf,e⟩
    · refine Eq.mpr (if_neg (by rw [hf];decide)) ?_
      exact go H1 H4 d _ Zat .refl E14 D0 lB (fun j x hx=>⟨x,by rw [e];exact hx,.inl ⟨rfl,rfl⟩⟩) fun s=>((Ended.refl (w:=.fln) (B:=B) (B':=B1) (by rw [e]) (by rw [e])).f s).symm
    · refine Eq.mpr (if_pos hf) ?_
      dsimp only [Zax,Zaj,Zam]
      dsimp only [tv,List.length_cons,List.length_nil,Nat.reduceAdd,List.set_cons_succ,List.set_cons_zero,Zac,Zaf,Zae,List.getElem?_cons_succ,v_0,Zar,Zah]
      show wsub (.ref tr) (.int (0:Nat)) _ _
      refine Zjx (E14 _ _ htr1) rfl (by rw [List.length_cons];lia) ?_
      refine Zon (n:=n + 4) G (S1.ext E14) I0 hx w0 (E14 _ _ L1.pu) (E14 _ _ L1.rl) (Zem R1 E14) hk fun H5 d E5 D=>⟨show 16 < 18 by decide,?_⟩
      refine go H4 H5 d _ (insN w k nm) E14 E5 D (fun x hx=>?_) (fun j x hx=>?_) fun s=>(e.f s).symm
      · unfold insN
        split
        · rw [List.length_map]
          exact Nat.le_trans (List.length_filter_le _ _) (Nat.le_trans (I0.pc x hx).ln.1 (by decide))
        · exact lB x hx
      · obtain ⟨y,hy,_,h⟩:=e.p j x hx
        exact ⟨y,hy,h⟩
  intro H0 H5 d F f E0 E5 D hfx hp hF
  refine nx _ _ ?_
  have len1:B1.pacts.length=B.pacts.length:=L.m.trans mB.symm
  refine w_st fun K nx=>?_
  refine Zzt (n:=n) G ⟨(by decide:17 < 18),rfl,rfl,rfl,rfl,rfl,rfl,rfl⟩ (S1.ext E0) (S'.ext E0) I0 p0 (E0 _ _ L1.pu) (E0 _ _ L1.rl) (Zem R1 E0) len1 mB hp hfx E5 D fun H6 p17 E6 D6=>nx _ _ ?_
  show wpSs _ _ _ _ _ [some (.ref sp),some (.ref b),some (.int (pur.length:Nat)),v3,some (.ref pu),some (.ref rl),v6,some (.ref t),v8,some (.int x),some (.int w),some (.ref tr),some (.str k),some (.int a),some (.bool good),some (.ref t'),some (.ref d),p17] _
  have E16:=E0.trans E6
  obtain ⟨f1,i1,s1,us1,ht1,hf1,hi1,hu1,hs1⟩:=S'.ext E16
  obtain ⟨fl',il',us',d1,d2,d3,d4,d5,d6,d7,d8⟩:=D6
  refine w_st fun K nx=>?_
  dsimp only [Zay,Zap,Zbc,Zac]
  refine row5 (j:=0) rfl ht1 (show 3≤1000 by decide) rfl ?_
  refine row5 (j:=1) rfl ht1 (show 3≤1000 by decide) rfl ?_
  dsimp only [Zaf]
  intro z hz
  have Ez:=Ext.refl.new (o:=.tuple [.ref f1,.ref i1]) hz
  dsimp only [Zae,List.getElem?_cons_succ,v_0]
  rw [Zzx]
  refine Zsj Zad (Ez _ _ hf1) (Ez _ _ hi1) (Zcd hu1 Ez) (Ez _ _ d1) (Zbr (Ez _ _ d4) hF) (Ez _ _ d5) (Zcd d6 Ez) ?_
  dsimp only [Zai]
  refine Eq.mpr (if_neg (by decide)) (nx _ _ ?_)
  dsimp only [Zax,Zb0,Zaj,tv,List.length_cons,List.length_nil,Nat.reduceAdd,List.set_cons_succ,List.set_cons_zero,Zae,List.getElem?_cons_succ,v_0]
  refine ⟨by decide,?_⟩
  exact hI _ _ _ _ _ _ _ _ _ _ _ ((L1.ext E16).ext Ez) ((S'.ext E16).ext Ez) (Ez _ _ (E16 _ _ hz1))
theorem law_turn {I:VV→Zaa→Prop} {k:Nat} {p9 p10 p11 p12 p13 p14 p15 p16 p17:Option AV} (hl:ns.length≤63) (np:∀ s∈pur,isNm s=true) (p0:0 < pur.length) (hk:k < ns.length) (L:Ls ns pur ks H sp b pu rl tot rts B) (S:Sn H t B pur) (hz:H zr=some (.range 0 mx))
    (hI:∀ V' H',Li ns pur ks sp b pu rl zr v3 v6 mx (k + 1) V' H'→I V' H') :
    wpSs ⟨c,n + 5,true⟩ lawB I QR EE [some (.ref sp),some (.ref b),some (.int (pur.length:Nat)),v3,some (.ref pu),some (.ref rl),v6,some (.ref t),some (.int k),p9,p10,p11,p12,p13,p14,p15,p16,p17] H:=by
  have m0:(0:Int) < (pur.length:Nat):=by lia
  have p100:=L.I.pl
  show wpSs _ (_ :: _) _ _ _ _ _
  refine w_st fun K nx=>?_
  dsimp only [Zaj,Zam,Zac]
  dsimp only [tv,List.length_cons,List.length_nil,Nat.reduceAdd,List.set_cons_succ,List.set_cons_zero,Zaf,Zau,Zah,Zae,List.getElem?_cons_succ,v_0,Zb5,Zar]
  refine Zxs L.s hk (by lia) fun i=>?_
  refine Zgy G rfl ⟨by decide,nx _ _ ?_⟩
  generalize mixed i (k + 99)=x
  refine w_st fun K nx=>?_
  dsimp only [Zaj,tv,List.length_cons,List.length_nil,Nat.reduceAdd,List.set_cons_succ,List.set_cons_zero,Zau,Zah,Zae,List.getElem?_cons_succ,v_0,Zby,ne_eq]
  refine ⟨by decide,by decide,nx _ _ ?_⟩
  have w0:=Za6 (x:=x) (m:=13) (by decide)
  have w1:=Zbe (x:=x) (m:=13) (by decide)
  generalize x.fmod 13=w at w0 w1
  refine w_st fun K nx=>?_
  dsimp only [Zaj,tv,List.length_cons,List.length_nil,Nat.reduceAdd,List.set_cons_succ,List.set_cons_zero,Zar,Zau,Zae,List.getElem?_cons_succ,v_0,Zah,Zb1,ne_eq,Zby]
  refine ⟨by decide,by lia,?_⟩
  refine Z0p L (Za6 m0) (Zbe m0) fun tr j0 x0 hx0 R=>⟨by decide,nx _ _ ?_⟩
  obtain ⟨nds,last,R⟩:=R
  have px:=L.I.at hx0
  have hpx:=Zdj L.I.nm hx0
  refine w_st fun K nx=>?_
  dsimp only [Zaj,tv,List.length_cons,List.length_nil,Nat.reduceAdd,List.set_cons_succ,List.set_cons_zero,Zar,Zau,Zae,List.getElem?_cons_succ,v_0,Zah,Zb1,ne_eq,Zby]
  refine ⟨by decide,by lia,?_⟩
  refine Zmg L.pu (Za6 m0) (Zbe m0) (by lia) fun s hs=>⟨by decide,nx _ _ ?_⟩
  refine w_st fun K nx=>?_
  suffices go:∀ s∈pur,K [some (.ref sp),some (.ref b),some (.int (pur.length:Nat)),v3,some (.ref pu),some (.ref rl),v6,some (.ref t),some (.int k),some (.int x),some (.int w),some (.ref tr),some (.str s),p13,p14,p15,p16,p17] H by
    dsimp only [Zay]
    dsimp only [Zap,Zah,Zau,Zae,List.getElem?_cons_succ,v_0,Zb1,ne_eq,Zby,c_gt,Zai,decide_eq_true_eq]
    refine ⟨by decide,by decide,?_⟩
    split
    · dsimp only [Zax,Zaj]
      refine Zpq (x:=x.fdiv 156) R (L.p1 _ (List.mem_of_getElem? hx0)) (Nat.le_trans px.ln.1 (by decide)) rfl (fun Q E h=>?_) fun s hs=>⟨show 12 < 18 by decide,go s ?_⟩
      · dsimp only [Zau,Zah,Zae,List.getElem?_cons_succ,v_0,Zb1,ne_eq]
        exact ⟨by decide,h⟩
      · obtain ⟨e,he,rfl⟩:=List.mem_map.mp hs
        exact (px.pm e he).1
    · exact go s hs
  intro s hs
  refine nx _ _ ?_
  refine w_st fun K nx=>?_
  dsimp only [Zaj,tv,List.length_cons,List.length_nil,Nat.reduceAdd,List.set_cons_succ,List.set_cons_zero,Zau,Zah,Zae,List.getElem?_cons_succ,v_0,Zb1,ne_eq,Zby,Zb5]
  refine ⟨by decide,by decide,by decide,nx _ _ ?_⟩
  generalize 1 + (x.fdiv 9360).fmod 26=a
  obtain ⟨pl,gl,nl,htr,_,_,_⟩:=id R
  refine w_st fun K nx=>?_
  dsimp only [Zaj,Zam]
  dsimp only [tv,List.length_cons,List.length_nil,Nat.reduceAdd,List.set_cons_succ,List.set_cons_zero,Zac,Zaf,Zae,List.getElem?_cons_succ,v_0,Zar,Zah]
  show wsub (.ref tr) (.int (0:Nat)) _ _
  refine Zjx htr rfl (show 5≤1000 by decide) ?_
  refine Zw8 (n:=n) G L.b L.I (Kv.nm (np s hs)) (Kv.nm px.nm) hpx w0 w1 ⟨show 14 < 18 by decide,nx _ _ ?_⟩ fun H1 B1 tot1 K1 b1 I1 ef=>⟨show 14 < 18 by decide,nx _ _ ?_⟩
  · exact law_rest G np p0 L.I L L.R S hz w0 hs hpx ⟨_,htr,(by decide:4≤10)⟩ (.inl ⟨rfl,rfl⟩) fun H' t' p9 p10 p11 p12 p13 p14 p15 p16 p17 L' S' hz'=>hI _ _ ⟨_,_,_,_,_,_,_,_,_,_,_,t',rts,B,rfl,L',S',hz'⟩
  · have ne:∀ {y x},H y=some x→x.isB=false→y≠b:=fun h hx q=>by rw [q,L.b] at h;cases h;cases hx
    exact law_rest G np p0 L.I (L.eff K1 b1 I1 ef) (Zlf L.R L.b K1) (S.kb L.b K1) (K1 _ _ (ne hz rfl) hz) w0 hs hpx ⟨_,K1 _ _ (ne htr rfl) htr,(by decide:4≤10)⟩ (.inr ⟨rfl,ef⟩) fun H' t' p9 p10 p11 p12 p13 p14 p15 p16 p17 L' S' hz'=>hI _ _ ⟨_,_,_,_,_,_,_,_,_,_,_,t',rts,B1,rfl,L',S',hz'⟩
theorem Ztg (h:H sp=some (.script ns)) (hl:ns.length≤63):CallOK c (n + 6) true "law" [.ref sp] (fun v _=>v = .bool true) (fun _ _=>False) H:=by
  refine G.call (F:=L12.f_law) rfl rfl ?_
  have hl2:ns.length < 2 ^ 62:=by lia
  show wpSs _ L12.f_law.body _ _ _ [some (.ref sp),none,none,none,none,none,none,none,none,none,none,none,none,none,none,none,none,none] _
  refine w_st fun K nx=>?_
  dsimp only [Zaj]
  refine Zs0 (c:=c) rfl G U12.a ⟨_,rfl⟩ fun b hb=>⟨show 1 < 18 by decide,nx _ _ ?_⟩
  have hb1:up H b (.book ⟨0,[],[],[]⟩) b=some (.book ⟨0,[],[],[]⟩):=Zad
  have hs1:up H b (.book ⟨0,[],[],[]⟩) sp=some (.script ns):=Zfw h hb
  generalize up H b (.book ⟨0,[],[],[]⟩)=H1 at hb1 hs1
  refine w_st fun K nx=>?_
  dsimp only [List.set_cons_succ,List.set_cons_zero,Zaj,tv,List.length_cons,List.length_nil,Nat.reduceAdd,Zau,Zah,Zam,Zac,Zaf,Zae,v_0]
  refine Zh1 (n:=n + 4) G rfl (by decide) hs1 hl2 ⟨by decide,by decide,nx _ _ ?_⟩
  refine w_st fun K nx=>?_
  suffices go:∀ m:Nat,2≤m→m≤12→K [some (.ref sp),some (.ref b),some (.int m),none,none,none,none,none,none,none,none,none,none,none,none,none,none,none] H1 by
    have go':∀ i:Int,2≤i→i≤12→K [some (.ref sp),some (.ref b),some (.int i),none,none,none,none,none,none,none,none,none,none,none,none,none,none,none] H1:=fun i h0 h1=>by
      have:=go i.toNat (by lia) (by lia)
      rw [Int.toNat_of_nonneg (by lia)] at this
      exact this
    dsimp only [Zay]
    dsimp only [Int.toNat_zero,Zap,Zah,Zau,Zam,Zac,Zaf,Zae,v_0]
    refine Zh1 (n:=n + 4) G rfl (by decide) hs1 hl2 ⟨by decide,by decide,?_⟩
    show wcmp .Eq (.int _) (.int 1) _ _
    dsimp only [c_eq,Zai]
    split
    · dsimp only [Zax,Zb0,Zaj,tv,List.length_cons,List.length_nil,Nat.reduceAdd,List.set_cons_succ,List.set_cons_zero,Zau,Zah,Zam,Zac,Zaf,Zae,v_0]
      refine Zh1 (n:=n + 4) G rfl (by decide) hs1 hl2 ⟨by decide,by decide,by decide,?_⟩
      have b0:=Za6 (x:=(cell ns (Int.toNat 0)).fdiv 24) (m:=3) (by decide)
      have b9:=Zbe (x:=(cell ns (Int.toNat 0)).fdiv 24) (m:=3) (by decide)
      exact go' _ (by lia) (by lia)
    · have b0:=Za6 (x:=cell ns 0) (m:=4) (by decide)
      have b9:=Zbe (x:=cell ns 0) (m:=4) (by decide)
      exact go' _ (by lia) (by lia)
  intro m m2 m12
  refine nx _ _ ?_
  refine w_st fun K nx=>?_
  dsimp only [Zaj]
  refine Zrz (n:=n + 3) (m:=2 * m) (nm:="_law_told") G rfl rfl rfl (by decide) (by lia) rfl rfl hs1 hl (fun Q E h=>?_) fun H2 zw E2 hzw=>⟨show 3 < 18 by decide,nx _ _ ?_⟩
  · dsimp only [Zau,Zae,List.getElem?_cons_succ,v_0,Zah,Zd6]
    exact ⟨IntMulOk.of_left (by decide +kernel),h⟩
  generalize cell ns (Int.toNat 1)=cl at hzw
  have wl:(Zea cl (2 * m)).length=2 * m:=Zot
  have wnd:(Zea cl (2 * m)).Nodup:=Zr1 (by lia)
  have wnm:=Zr0 (cl:=cl) (m:=2 * m)
  generalize Zea cl (2 * m)=ws at hzw wl wnd wnm
  refine w_st fun K nx=>?_
  dsimp only [List.set_cons_succ,List.set_cons_zero,Zaj,tv,List.length_cons,List.length_nil,Nat.reduceAdd,Zav,Zbv,Zbs,Zae,List.getElem?_cons_succ,v_0]
  refine Zhh (l:=none) (u:=some (m:Int)) (t:=none) hzw rfl rfl rfl (fun e=>by cases e) (by rw [Zan];lia) fun pu H3 E3 _ hpu=>⟨by decide,nx _ _ ?_⟩
  have hpu:H3 pu=some (.list (txs (ws.take m))):=by rw [hpu,Zj4];unfold txs;rw [List.map_take]
  have pl:(ws.take m).length=m:=by rw [List.length_take];lia
  have wl2:(ws.drop m).length=m:=by rw [List.length_drop];lia
  have np:∀ s∈ws.take m,isNm s=true:=fun s hs=>wnm s (List.mem_of_mem_take hs)
  have hzw3:H3 zw=some (.list (txs (ws.take m ++ ws.drop m))):=by rw [List.take_append_drop];exact E3 _ _ hzw
  have pnd:=wnd.sublist (List.take_sublist m ws)
  have dnd:=wnd.sublist (List.drop_sublist m ws)
  have nw:∀ s∈ws.drop m,isNm s=true:=fun s hs=>wnm s (List.mem_of_mem_drop hs)
  have E13:=E2.trans E3
  generalize ws.take m=pur at *
  generalize ws.drop m=wds at *
  refine w_st fun K nx=>?_
  dsimp only [Zaj,Zam]
  dsimp only [tv,List.length_cons,List.length_nil,Nat.reduceAdd,List.set_cons_succ,List.set_cons_zero,Zac,Zaf,Zae,List.getElem?_cons_succ,v_0]
  refine Zvx (n:=n) G (by rw [pl]) (E13 _ _ hs1) hl (E13 _ _ hb1) hzw3 (by lia) (by lia) (by lia) pnd np nw dnd fun H4 rl rts B tot ks K4 hrl hR hb4 I hlB hp1=>⟨by decide,nx _ _ ?_⟩
  have hsb:sp≠b:=fun e=>by rw [e,hb1] at hs1;cases hs1
  have hpb:pu≠b:=fun e=>by have:=E13 _ _ hb1;rw [← e,hpu] at this;cases this
  have L4:Ls ns pur ks H4 sp b pu rl tot rts B:=⟨K4 _ _ hsb (E13 _ _ hs1),hb4,K4 _ _ hpb hpu,hrl,hR,I,by rw [hlB];lia,hp1⟩
  refine w_st fun K nx=>?_
  dsimp only [Zaj,tv,List.length_cons,List.length_nil,Nat.reduceAdd,List.set_cons_succ,List.set_cons_zero,Zah]
  refine ⟨by decide,nx _ _ ?_⟩
  refine w_st fun K nx=>?_
  dsimp only [Zay]
  dsimp only [Zap,Zah,Zak,Zac,Zaf,Zae,v_0]
  refine Zu1 L4.s (by lia) ?_
  (dsimp only [c_gt,Zai];rw [decide_eq_false (by lia)];refine Eq.mpr (if_neg Bool.false_ne_true) ?_)
  refine nx _ _ ?_
  refine w_st fun K nx=>?_
  dsimp only [Zaj,Zam]
  dsimp only [tv,List.length_cons,List.length_nil,Nat.reduceAdd,List.set_cons_succ,List.set_cons_zero,Zac,Zaf,Zah,Zae,List.getElem?_cons_succ,v_0]
  refine Zo8 (n:=n + 1) G L4.b L4.I np L4.pu L4.rl L4.R fun H5 t E5 S5=>⟨by decide,nx _ _ ?_⟩
  refine w_st fun K nx=>?_
  dsimp only [Zbd]
  refine ⟨rfl,?_⟩
  dsimp only [Zak,wtg,Zac,Zaf,Zae,v_0,List.getElem?_cons_succ]
  refine Zu1 (E5 _ _ L4.s) (by lia) ⟨rfl,?_⟩
  have hmx:∃ mx:Int,(if (ns.length:Int) < 24 then (ns.length:Int) else 24)=mx∧0≤mx∧mx≤ns.length:=⟨_,rfl,by split <;> lia,by split <;> lia⟩
  obtain ⟨mx,e,mx0,mxl⟩:=hmx
  rw [e]
  refine Zlm mx0 (by lia) fun zr H7 _ E7 hz=>?_
  rw [← pl]
  refine Znj hz (Li ns pur ks sp b pu rl zr (some (.ref zw)) (some (.int 24)) mx) ⟨_,_,_,_,_,_,_,_,_,_,tot,t,rts,B,rfl,(L4.ext E5).ext E7,S5.ext E7,hz⟩ ?_
  rintro J hJ k V' H' ⟨p8,p9,p10,p11,p12,p13,p14,p15,p16,p17,tot',t',rts',B',rfl,L',S',hz'⟩
  refine ⟨hz',fun _=>nx _ _ ?_,fun hk=>⟨show 8 < 18 by decide,?_⟩⟩
  · dsimp only [Zax,Zb0,Zbt,Zah]
  · exact law_turn (n:=n) G hl np (by lia) (by lia) L' S' hz' (hJ (k + 1))
end
end Mine
end
namespace Mine.L12
theorem law_ok {c:Cx} (G:Gd c P) {n:Nat} {H:Zaa} {sp:Addr} {ns:List Int} (h:H sp=some (.script ns)) (hl:ns.length≤63):CallOK c (n + 6) true "law" [.ref sp] (fun v _=>v = .bool true) (fun _ _=>False) H:=Ztg G h hl
end Mine.L12
namespace Mine.L12
noncomputable def view:Program:=PySem.W.view PySem.Challenge.pw_uf020038_12 [45]
noncomputable def loose:List Str:=[Str.ofString "_wall",Str.ofString "__name__",Str.ofString "BookError",Str.ofString "NoName",Str.ofString "NoAmount",Str.ofString "Taken",Str.ofString "NoPurse",Str.ofString "TooLittle",Str.ofString "NoRow",Str.ofString "Twice",Str.ofString "Uneven",Str.ofString "Fallen",Str.ofString "NoDay",Str.ofString "NoPact",Str.ofString "NotOpen",Str.ofString "NoPart",Str.ofString "Already",Str.ofString "NotAside",Str.ofString "Pact",Str.ofString "are_met",Str.ofString "table_of",Str.ofString "greatest",Str.ofString "LETTERS",Str.ofString "MOST_SIGNS",Str.ofString "MOST_AMOUNT",Str.ofString "is_whole",Str.ofString "is_name",Str.ofString "name_of",Str.ofString "amount_of",Str.ofString "MOST",Str.ofString "Book",Str.ofString "_law_cell_at",Str.ofString "_law_mixed",Str.ofString "_law_word",Str.ofString "_law_pact_by",Str.ofString "_law_done",Str.ofString "_law_seen",Str.ofString "_law_ended",Str.ofString "_law_changed",Str.ofString "_law_rows"]
noncomputable def hook:Hook:=Zms P (3 :: (List.range 565).drop 11)
theorem left:LeftO PySem.Challenge.pw_uf020038_12 view loose (fun s=>xlAt view [] s && recOk [] s) hook.obs hook.val 30000 true :=
  Zwl Zn7 (m₀:=11) (ann:=some (.ref 6)) rfl rfl (fun s=>rfl) (fun w=>by kernel_rfl) (fun w os=>by kernel_rfl)
end Mine.L12
open PySem.W.X in
set_option maxHeartbeats 0 in
theorem PySem.Challenge.cw_uf020038_12_holds : PySem.Challenge.rw_uf020038_12.Holds := by
  w_on
  refine holds_law (by decide +kernel) fun said=>?_
  refine holds_open (q:=Mine.L12.view) (loose:=Mine.L12.loose) (Xt:=fun s=>xlAt Mine.L12.view [] s && recOk [] s) (XP:=XL Mine.L12.view []) (Yf:=Mine.L12.hook.obs) (Ya:=Mine.L12.hook.val) (YP:=Mine.L12.hook.says) (N:=30000) Mine.L12.left Mine.L12.hook.of Mine.L12.hook.keeps (fun s e=>xl_of s (Bool.and_eq_true_iff.mp e).1) XL.keeps (by rfl) (by rfl) (by rfl) (fun s e=>recFacts_of (Bool.and_eq_true_iff.mp e).2) (by rfl) (by first | assumption | decide +kernel) (by decide +kernel) ⟨rfl,rfl,rfl,rfl,rfl,by decide +kernel⟩ ?hw ?hc
  case hw=>w_witness2
  case hc =>
    intro w s0 s₁ mg mb G Y fa o pm cd doc dV kV ho hd hcd hD hmg hg args vals as hpre hlay hrd hwl hlo
    obtain ⟨K,KX,hok⟩:=Y
    clear ho hd hcd hD
    refine Ground.open G ?_
    intro T B D TE TW
    wrow_args hpre hlay hrd hwl hlo
    clear G B D TE TW
    have hseer:=T.seer (by decide +kernel)
    refine Mine.enter (P:=Mine.L12.P) (n:=6) (by decide) KX T hseer (by rfl) rfl hmg hok (by rfl) (Mine.script_get (by assumption) (by assumption)) (by assumption) ?mineC ?mineQ
    case mineC =>
      intro c hP C PO FO
      exact Mine.L12.law_ok (n:=0) ⟨hP,⟨_,_,C⟩,PO,FO⟩ Mine.scriptH_at (by omega)
    case mineQ =>
      intro s' st ho hgn
      exact GoodW.toG ⟨.inl ⟨.bool true,.bool true,[],rfl,fun _=>rfl,.bool true,by kernel_rfl,fun _=>⟨List.nodup_nil,fun a ha=>by cases ha⟩⟩,st,ho,hgn.trans hg⟩




