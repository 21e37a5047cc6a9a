import PyProof.Rows.All
import Wide.All
import OpenK.AllK
import Wide.FinOn
import KE.KDictList
import KE.KEqDict
import KE.KItemsList
import Open.Boot
import Open.FastT9
import Open.Tree
import OpenK.KCell
import OpenK.KList
import OpenK.KMore
import OpenK.KNot
import OpenK.KOwn
import OpenK.KWalk
import PyProof.ExcArgs
import PyProof.NsDelKeeps
import PyProof.WalksMore
import PyProof.WalksPairs
import PySem.Challenge.RW_uf020038_09
open PySem PySem.W PyProof.Rows PySem.Spec PySem.SeqAt PySem.Calls
set_option Elab.async false
set_option maxRecDepth 100000
set_option maxHeartbeats 4000000
set_option linter.all false
set_option bootstrap.genMatcherCode false
set_option genSizeOf false
set_option genSizeOfSpec false
set_option tactic.hygienic false
section
namespace Mine
@[elab_as_elim] theorem rl {α:Sort u} {a b:α} {p:α→Prop} (h:a=b) (q:p b):p a:=h▸q
inductive AV where
 | none
 | bool (b:Bool)
 | int (i:Int)
 | str (s:Str)
 | ref (a:Addr)
 deriving DecidableEq,Inhabited
inductive Sta where
 | opn | dn | fln
 deriving DecidableEq,Inhabited
noncomputable def Sta.str:Sta→Str
 | .opn=>Str.ofString "open"
 | .dn=>Str.ofString "done"
 | .fln=>Str.ofString "fallen"
set_option genInjectivity false in
structure Pc where
 name:Str
 parts:List (Str×Int)
 gains:List (Str×Int)
 needs:List Str
 last:Int
 state:Sta
 inside:List Str
set_option genInjectivity false in
structure Bk where
 day:Int
 free:List (Str×Int)
 aside:List (Str×Int)
 pacts:List Pc
noncomputable def letters:Str:=Str.ofString "abcdefghijklmnopqrstuvwxyz"
noncomputable def isNm (s:Str):Bool:=decide (1≤s.length∧s.length≤12)&&s.cps.toList.all fun ch=>letters.cps.toList.contains ch
noncomputable def lk {α:Type} (l:List (Str×α)) (k:Str):Option α:=(l.find? fun e=>e.1=k).map (·.2)
noncomputable def pt {α:Type} (l:List (Str×α)) (k:Str) (v:α):List (Str×α):=if (lk l k).isSome then l.map (fun e=>if e.1=k then (e.1,v) else e) else l++[(k,v)]
noncomputable def ad (l:List (Str×Int)) (k:Str) (n:Int):List (Str×Int):=pt l k ((lk l k).getD 0+n)
noncomputable def Bk.pact (B:Bk) (k:Str):Option Pc:=B.pacts.find? fun q=>q.name=k
noncomputable def Bk.setPact (B:Bk) (k:Str) (f:Pc→Pc):Bk:={ B with pacts:=B.pacts.map fun q=>if q.name=k then f q else q }
noncomputable def Bk.giveBack (B:Bk) (k:Str) (n:Int):Bk:={ B with aside:=ad B.aside k (-n),free:=ad B.free k n }
noncomputable def Bk.fellQ (B:Bk) (q:Pc):Bk :=
 (q.parts.foldl (fun B e=>if e.1∈q.inside then B.giveBack e.1 e.2 else B) B).setPact q.name fun q=>{ q with inside:=[],state:=.fln }
noncomputable def Bk.fallen (B:Bk) (k:Str):Bool:=match B.pact k with
 | some q=>q.state==.fln
 | none=>false
noncomputable def Bk.firstDragged (B:Bk):Option Pc:=B.pacts.find? fun q=>q.state==.opn&&q.needs.any B.fallen
noncomputable def Bk.dragged:Nat→Bk→List Str→Bk×List Str
 | 0,B,l=>(B,l)
 | n+1,B,l=>match B.firstDragged with
  | none=>(B,l)
  | some q=>(B.fellQ q).dragged n (l++[q.name])
inductive AObj where
 | list (xs:List AV)
 | tuple (xs:List AV)
 | dict (ep:Nat) (es:List (Str×AV))
 | inst (c:String) (es:List (String×AV))
 | range (lo hi:Int)
 | vals (d:Addr)
 | itms (d:Addr)
 | exc (c:String)
 | script (ns:List Int)
 | book (B:Bk)
noncomputable def AObj.isB:AObj→Bool
 | .book _=>true
 | _=>false
noncomputable def AObj.isS:AObj→Bool
 | .script _=>true
 | _=>false
noncomputable def AObj.isX:AObj→Bool
 | .script _=>true
 | .exc _=>true
 | _=>false
abbrev Zaa:=Addr→Option AObj
noncomputable def up (H:Zaa) (a:Addr) (o:AObj):Zaa:=fun b=>if b=a then some o else H b
abbrev VV:=List (Option AV)
inductive VR:AV→Value→Prop
 | none:VR .none .none
 | bool (b:Bool):VR (.bool b) (.bool b)
 | int (i:Int) (t:Tok):VR (.int i) (.int i t)
 | str (s:Str) (t:Tok) (h:PyData.strOk s=true):VR (.str s) (.str s t)
 | ref (a:Addr):VR (.ref a) (.ref a)
inductive VRs:List AV→List Value→Prop
 | nil:VRs [] []
 | cons {a v as vs}:VR a v→VRs as vs→VRs (a::as) (v::vs)
inductive OVR:Option AV→Option Value→Prop
 | none:OVR Option.none Option.none
 | some {a v}:VR a v→OVR (Option.some a) (Option.some v)
inductive DRs:List (Str×AV)→List (Str×Value)→Prop
 | nil:DRs [] []
 | cons {k a v as vs}:PyData.strOk k=true→VR a v→DRs as vs→DRs ((k,a)::as) ((k,v)::vs)
set_option genCtorIdx false in
set_option genInjectivity false in
inductive Tg where
 | var (i:Nat)
 | tup (is:List Nat)
set_option genInjectivity false in
inductive Pr where
 | len | list | int | range | sum | all | min | max | min3
noncomputable def Pr.str:Pr→String
 | .len=>"len" | .list=>"list" | .int=>"int" | .range=>"range" | .sum=>"sum" | .all=>"all" | .min=>"min" | .max=>"max" | .min3=>"min"
set_option genInjectivity false in
inductive BM where
 | append | index | count | clear | values | pop | upper | items | remove
noncomputable def BM.str:BM→String
 | .append=>"append" | .index=>"index" | .count=>"count" | .clear=>"clear" | .values=>"values" | .pop=>"pop" | .upper=>"upper" | .items=>"items" | .remove=>"remove"
set_option genInjectivity false in
inductive X where
 | lit (v:AV)
 | var (i:Nat)
 | glob (n:String)
 | bin (op:Operator) (a b:X)
 | neg (a:X)
 | not (a:X)
 | ao (isAnd:Bool) (xs:List X)
 | ite (c a b:X)
 | cmp (op:CmpOp) (a b:X)
 | cmp2 (op1 op2:CmpOp) (a b c:X)
 | sub (a i:X)
 | slice (a:X) (lo hi st:Option X)
 | attr (a:X) (n:String)
 | call (f:String) (xs:List X)
 | new (c:String) (xs:List X)
 | meth (a:X) (m:String) (xs:List X)
 | bm (a:X) (m:BM) (xs:List X)
 | prim (f:Pr) (xs:List X)
 | isinst (a:X) (c:String)
 | list (xs:List X)
 | tuple (xs:List X)
 | dict (ks vs:List X)
 | comp (e:X) (k:Nat) (tup:Bool) (it:X) (c:Option X)
set_option genCtorIdx false in
set_option genInjectivity false in
inductive T where
 | var (i:Nat)
 | tup (is:List Nat)
 | sub (a i:X)
 | attr (a:X) (n:String)
set_option genCtorIdx false in
set_option genInjectivity false in
mutual
inductive S where
 | assign (t:T) (e:X)
 | expr (e:X)
 | ret (e:X)
 | ite (c:X) (a b:List S)
 | while (c:X) (body:List S)
 | for (t:Tg) (it:X) (body:List S)
 | raise (c:String) (msg:Str)
 | try (body:List S) (hs:List Hd)
 | pass
inductive Hd where
 | mk (c:String) (nm:Option Nat) (body:List S)
end
set_option genInjectivity false in
structure Fn where
 npar:Nat
 slots:List String
 body:List S
set_option genInjectivity false in
structure Pg where
 fns:List (String×Fn)
 gfns:List String
 consts:List (String×AV)
 excs:List (String×List String)
 classes:List String
 meths:List (String×String)
 attrs:List (String×String)
 prims:List String
inductive Res where
 | ns (m:Str→Option Value)
 | cell (v:Option Value)
 | obj (o:Obj)
abbrev RR:=Addr→Option Res
noncomputable def rup (R:RR) (a:Addr) (r:Res):RR:=fun b=>if b=a then some r else R b
noncomputable def ResAt (h:Heap) (b:Addr):Res→Prop
 | .ns m=>h.Ns b m
 | .cell v=>∃ o,h.get? b=some o∧o.data = .cell v
 | .obj o=>h.get? b=some o
set_option genInjectivity false in
structure Cx where
 prog:Program
 w:World
 K:Frag
 base:Heap
 P:Pg
 fa:String→Addr
 ca:String→Addr
noncomputable def Zcf (es:List (String×AV)) (ents:List DictEntry):Prop :=
 match es,ents with
 | [],[]=>True
 | (n,a)::r,e::q=>(∃ t,e.key = .str (Str.ofString n) t)∧VR a e.val∧Zcf r q
 | _,_=>False
noncomputable def RgOk (a b:Int):Prop:=-(2 ^ 62)<a∧a<2 ^ 62∧-(2 ^ 62)<b∧b<2 ^ 62
noncomputable def ORep (c:Cx) (h:Heap) (D:Addr→Addr) (a:Addr):AObj→Prop
 | .list xs=>∃ vs n,h.get? a=some (listOf (vs:List Value).toArray n)∧VRs xs vs
 | .tuple xs=>∃ vs n,h.get? a=some { cls:=.type "tuple",data:=.seq (vs:List Value).toArray n }∧VRs xs vs
 | .dict ep es=>∃ kvs,h.DictAt (strKind c.prog c.w) a kvs ep∧DRs es kvs
 | .inst cl es=>h.get? a=some (instObj (c.ca cl) (D a))∧∃ ents n,h.get? (D a)=some (dictOf ents n)∧Zcf es ents∧(es.map (·.1)).Nodup
 | .range lo hi=>RgOk lo hi∧∃ t u v,IsRange h a lo hi 1 t u v
 | .vals d=>h.get? a=some { cls:=.type "dict_values",data:=.fields #[.ref d] }
 | .itms d=>h.get? a=some { cls:=.type "dict_items",data:=.fields #[.ref d] }
 | .exc cl=>∃ o,h.get? a=some o∧o.cls = .ref (c.ca cl)∧∃ vs,o.data = .fields vs
 | .script ns=>∃ vs n,h.get? a=some (listOf (vs:List Value).toArray n)∧VRs (ns.map AV.int) vs
 | .book _=>False
noncomputable def Abv (c:Cx) (a:Addr) (o:AObj):Prop:=(o.isS=false→c.base.get? a=none)∧(o.isX=false→c.base.objs.size≤a)
structure HR (c:Cx) (R:RR) (D:Addr→Addr) (H:Zaa) (h:Heap):Prop where
 rep:∀ a o,H a=some o→ORep c h D a o
 above:∀ a o,H a=some o→Abv c a o∧R a=none
 dict:∀ a cl es,H a=some (.inst cl es)→c.base.objs.size≤D a∧R (D a)=none∧H (D a)=none
 inj:∀ a b cl es cl' es',H a=some (.inst cl es)→H b=some (.inst cl' es')→D a=D b→a=b
structure St1 (c:Cx) (R:RR) (H:Zaa) (h:Heap):Prop where
 stays:c.base.StaysIn h
 size:c.base.objs.size≤h.objs.size
 res:∀ b r,R b=some r→c.base.objs.size≤b∧ResAt h b r
 rep:∃ D,HR c R D H h
inductive Role where
 | self | free | aside | pacts | pact (i:Nat) | inside (i:Nat) | data
noncomputable def dI (l:List (Str×Int)):List (Str×AV):=l.map fun e=>(e.1,.int e.2)
noncomputable def pairsAV (o:Addr→Option Role) (H:Zaa):List Addr→List (Str×Int)→Prop
 | [],[]=>True
 | t::ts,e::l=>o t=some .data∧H t=some (.tuple [.str e.1,.int e.2])∧pairsAV o H ts l
 | _,_=>False
noncomputable def PairsAt (o:Addr→Option Role) (H:Zaa) (p:Addr) (l:List (Str×Int)):Prop:=o p=some .data∧∃ ts:List Addr,H p=some (.list (ts.map .ref))∧pairsAV o H ts l
structure IsPact (o:Addr→Option Role) (H:Zaa) (i:Nat) (a:Addr) (q:Pc):Prop where
 own:o a=some (.pact i)
 at_:∃ pa ga ne ins ep,H a=some (.inst "Pact" [("name",.str q.name),("parts",.ref pa),("gains",.ref ga),("needs",.ref ne),("last",.int q.last),("state",.str q.state.str),("inside",.ref ins)]) ∧
  PairsAt o H pa q.parts∧PairsAt o H ga q.gains∧o ne=some .data∧H ne=some (.list (q.needs.map .str))∧o ins=some (.inside i)∧H ins=some (.dict ep (q.inside.map fun k=>(k,.bool true)))
noncomputable def pactsAt (o:Addr→Option Role) (H:Zaa):Nat→List Addr→List Pc→Prop
 | _,[],[]=>True
 | i,a::as,q::qs=>IsPact o H i a q∧pactsAt o H (i+1) as qs
 | _,_,_=>False
noncomputable def dP:List Pc→List Addr→List (Str×AV)
 | q::qs,a::as=>(q.name,.ref a)::dP qs as
 | _,_=>[]
structure IsBook (o:Addr→Option Role) (H:Zaa) (b f s p:Addr) (as:List Addr) (B:Bk):Prop where
 ob:o b=some .self
 of:o f=some .free
 os:o s=some .aside
 op:o p=some .pacts
 hb:H b=some (.inst "Book" [("day",.int B.day),("free",.ref f),("aside",.ref s),("pacts",.ref p)])
 hf:∃ ep,H f=some (.dict ep (dI B.free))
 hs:∃ ep,H s=some (.dict ep (dI B.aside))
 hp:∃ ep,H p=some (.dict ep (dP B.pacts as))
 ps:pactsAt o H 0 as B.pacts
noncomputable def ownB (o:Addr→Option (Addr×Role)) (b:Addr):Addr→Option Role:=fun a=>match o a with
 | some (c,r)=>if c=b then some r else none
 | none=>none
noncomputable def Real (H H₁:Zaa):Prop:=(∀ a x,H₁ a=some x→x.isB=false)∧∃ o:Addr→Option (Addr×Role),∀ a x,H a=some x→(x.isB=false∧H₁ a=some x∧o a=none)∨∃ B f s p as,x = .book B∧IsBook (ownB o a) H₁ a f s p as B
noncomputable def St (c:Cx) (R:RR) (H:Zaa) (h:Heap):Prop:=∃ H₁,St1 c R H₁ h∧Real H H₁
noncomputable def Sm (s s':Shared):Prop:=∃ h tk,s' = { s with heap:=h,toks:=tk }
structure FEnv (R:RR) (e:Env):Prop where
 kind:e.scope.kind = .function
 frame:e.frame=some e.locals
 gen:e.scope.isGenerator=false
 co:e.scope.isCoroutine=false
 blt:e.builtins=builtinsNs
 glob:e.globals=mainGlobals
 ns:∃ m,R e.locals=some (.ns m)
noncomputable def Stk (R:RR) (stk:List Env):Prop:=∀ e∈stk,FEnv R e
structure AOk (k n:Nat) (md:Bool) (A:Around) (stk:List Env):Prop where
 frames:A.frames=some stk
 depth:A.depth+110+k+8*n<recursionLimit
 units:A.units+100+10*k+60*n<cLine
 hand:md=true→A.handled=none
inductive ExcAt (c:Cx) (R:RR) (H:Zaa) (h:Heap) (e:Addr) (cls:Value):Value→Prop
 | fresh {t:Addr}:h.get? e=some { cls:=cls,data:=.fields #[.ref t,.none,.none,.none,.bool false,.none] }→ExcAt c R H h e cls .ellipsis
 | traced {oe:Obj} {vs:Array Value} {T:Addr} {oT:Obj} {ts:Array Value} {fl a0:Value}:h.get? e=some oe→oe.cls=cls→oe.data = .fields vs→vs[0]? = some a0→vs[1]? = some (.ref T)→T≠e →
   R T=none→H T=none→c.base.get? T=none→h.get? T=some oT→oT.data = .fields ts→ts[3]? = some fl→fl≠.ellipsis→ExcAt c R H h e cls fl
structure ExcSt1 (c:Cx) (R:RR) (H:Zaa) (e:Addr) (cl:String) (fl:Value) (h:Heap):Prop where
 st:St1 c R H h
 re:R e=none
 he:H e=none
 be:c.base.get? e=none
 ob:ExcAt c R H h e (.ref (c.ca cl)) fl
 kn:(c.P.excs.lookup cl).isSome=true
noncomputable def ExcSt (c:Cx) (R:RR) (H:Zaa) (e:Addr) (cl:String) (fl:Value) (h:Heap):Prop:=∃ H₁,ExcSt1 c R H₁ e cl fl h∧Real H H₁
noncomputable def CallOK (c:Cx) (n:Nat) (md:Bool) (f:String) (args:List AV) (Q:AV→Zaa→Prop) (E:String→Zaa→Prop) (H:Zaa):Prop :=
 ∀ (A:Around) (stk:List Env) (R:RR) (s:Shared) (vals:List Value) (Rs:Result→Shared→Prop),
  AOk 0 n md A stk→Stk R stk→St c R H s.heap→VRs args vals →
  (∀ av v s' H',VR av v→St c R H' s'.heap→Sm s s'→Q av H'→Rs (.ok (.ret v)) s') →
  (∀ e cl s' H',ExcSt c R H' e cl .none s'.heap→Sm s s'→E cl H'→Rs (.error (.ref e)) s') →
  codeAny (model c.prog c.w) A (.call (.ref (c.fa f)) ⟨vals,[]⟩) Rs s
mutual
inductive RD (H:Zaa):AV→PyData→Prop
 | none:RD H .none .none
 | bool (b:Bool):RD H (.bool b) (.bool b)
 | int (i:Int):RD H (.int i) (.int i)
 | str (s:Str):RD H (.str s) (.str s)
 | list {a xs ds}:H a=some (.list xs)→RDs H xs ds→RD H (.ref a) (.list ds)
 | tuple {a xs ds}:H a=some (.tuple xs)→RDs H xs ds→RD H (.ref a) (.tuple ds)
inductive RDs (H:Zaa):List AV→List PyData→Prop
 | nil:RDs H [] []
 | cons {a d as ds}:RD H a d→RDs H as ds→RDs H (a::as) (d::ds)
end
mutual
noncomputable def Zlz:PyData→Bool
 | .none | .bool _ | .int _ | .str _=>true
 | .list xs | .tuple xs=>Zf0 xs
 | .dict _=>false
noncomputable def Zf0:List PyData→Bool
 | []=>true
 | x::xs=>Zlz x&&Zf0 xs
end
noncomputable def okD (d:PyData):Prop:=Zlz d=true∧d.depth≤64
noncomputable def Zgn (n:Nat) (i:Int):Option Nat :=
 if 0≤i then (if i<n then some i.toNat else none) else if -(n:Int)≤i then some (i+n).toNat else none
noncomputable def Zbu (es:List (Str×AV)) (k:Str):Option AV:=(es.find? fun e=>e.1=k).map (·.2)
noncomputable def putS (es:List (Str×AV)) (k:Str) (v:AV):List (Str×AV) :=
 if (Zbu es k).isSome then es.map (fun e=>if e.1=k then (e.1,v) else e) else es++[(k,v)]
noncomputable def Zeb (es:List (String×AV)) (k:String):Option AV:=(es.find? fun e=>e.1=k).map (·.2)
noncomputable def putA (es:List (String×AV)) (k:String) (v:AV):List (String×AV) :=
 if (Zeb es k).isSome then es.map (fun e=>if e.1=k then (e.1,v) else e) else es++[(k,v)]
noncomputable def Zbm (v:AV) (H:Zaa) (Q:Bool→Prop):Prop :=
 match v with
 | .none=>Q false
 | .bool b=>Q b
 | .int i=>Q (i != 0)
 | .str s=>s.length<2 ^ 62∧Q (s.length != 0)
 | .ref a=>match H a with
  | some (.list xs)=>xs.length<2 ^ 62∧Q (!xs.isEmpty)
  | some (.tuple xs)=>xs.length<2 ^ 62∧Q (!xs.isEmpty)
  | _=>False
noncomputable def wii (a b:AV) (P:Int→Int→Prop):Prop:=match a,b with
 | .int x,.int y=>P x y
 | _,_=>False
noncomputable def wbin (op:Operator) (a b:AV) (Q:AV→Zaa→Prop) (H:Zaa):Prop :=
 match op with
 | .Add=>(match a,b with
  | .int x,.int y=>Q (.int (x+y)) H
  | .str x,.str y=>x.length+y.length≤sizeLine∧Q (.str (x++y)) H
  | .ref x,.ref y=>(match H x,H y with
   | some (.list xs),some (.list ys)=>xs.length+ys.length≤sizeLine∧∀ z,H z=none→Q (.ref z) (up H z (.list (xs++ys)))
   | _,_=>False)
  | _,_=>False)
 | .Sub=>wii a b fun x y=>Q (.int (x - y)) H
 | .Mult=>wii a b fun x y=>IntMulOk x y∧Q (.int (x*y)) H
 | .FloorDiv=>wii a b fun x y=>y≠0∧Q (.int (x.fdiv y)) H
 | .Mod=>wii a b fun x y=>y≠0∧Q (.int (x.fmod y)) H
 | .Pow=>wii a b fun x y=>(2≤x∧1≤y∧Builtin.Int.intTooBig (((Builtin.Int.intBits x:Nat):Int)*y)=false)∧Q (.int (x ^ y.toNat)) H
 | _=>False
noncomputable def nt (n b:Bool):Bool:=match n with
 | true=>!b
 | false=>b
theorem nt_eq {n b:Bool}:(b != n)=nt n b:=by cases n<;>cases b<;>rfl
noncomputable def weq (ne:Bool) (a b:AV) (Q:AV→Zaa→Prop) (H:Zaa):Prop :=
 match a,b with
 | .int x,.int y=>Q (.bool (nt ne (x==y))) H
 | .str x,.str y=>Q (.bool (nt ne (x==y))) H
 | a,b=>∃ da db,RD H a da∧RD H b db∧okD da∧okD db∧Q (.bool (nt ne (PyData.eqv da db))) H
noncomputable def win (no:Bool) (x cc:AV) (Q:AV→Zaa→Prop) (H:Zaa):Prop :=
 match cc with
 | .ref a=>match H a with
  | some (.list ys)=>∃ d ds,RD H x d∧RDs H ys ds∧okD d∧Zf0 ds=true∧Q (.bool (nt no (ds.any fun y=>PyData.eqv y d))) H
  | some (.tuple ys)=>∃ d ds,RD H x d∧RDs H ys ds∧okD d∧Zf0 ds=true∧Q (.bool (nt no (ds.any fun y=>PyData.eqv y d))) H
  | some (.dict _ es)=>match x with
   | .str k=>Q (.bool (nt no (Zbu es k).isSome)) H
   | _=>False
  | _=>False
 | .str s=>match x with
  | .str k=>∃ ch,k=⟨#[ch]⟩∧Q (.bool (nt no (s.cps.toList.contains ch))) H
  | _=>False
 | _=>False
noncomputable def wcmp (op:CmpOp) (a b:AV) (Q:AV→Zaa→Prop) (H:Zaa):Prop :=
 match op with
 | .Eq=>weq false a b Q H
 | .NotEq=>weq true a b Q H
 | .In=>win false a b Q H
 | .NotIn=>win true a b Q H
 | .Is=>match b with
  | .none=>Q (.bool (a==.none)) H
  | .bool c=>Q (.bool (a==.bool c)) H
  | _=>False
 | .IsNot=>match b with
  | .none=>Q (.bool (a != .none)) H
  | .bool c=>Q (.bool (a != .bool c)) H
  | _=>False
 | op=>match a,b with
  | .int x,.int y=>match op with
   | .Lt=>Q (.bool (decide (x<y))) H
   | .LtE=>Q (.bool (decide (x≤y))) H
   | .Gt=>Q (.bool (decide (y<x))) H
   | .GtE=>Q (.bool (decide (y≤x))) H
   | _=>False
  | _,_=>False
noncomputable def wsub (a i:AV) (Q:AV→Zaa→Prop) (H:Zaa):Prop :=
 match a,i with
 | .ref a,.int i=>match H a with
  | some (.list xs)=>∃ j v,Zgn xs.length i=some j∧i<2 ^ 63∧-(2 ^ 63)≤i∧xs[j]? = some v∧Q v H
  | some (.tuple xs)=>∃ j v,Zgn xs.length i=some j∧i<2 ^ 63∧-(2 ^ 63)≤i∧xs[j]? = some v∧Q v H
  | some (.script ns)=>0≤i∧i<2 ^ 63∧∃ n,ns[i.toNat]? = some n∧Q (.int n) H
  | _=>False
 | .ref a,.str k=>match H a with
  | some (.dict _ es)=>∃ v,Zbu es k=some v∧Q v H
  | _=>False
 | .str s,.int i=>0≤i∧i<2 ^ 63∧∃ ch,s.cps[i.toNat]? = some ch∧Q (.str ⟨#[ch]⟩) H
 | _,_=>False
noncomputable def Zbz {α:Type} (xs:List α) (lo hi st:Option Int):List α :=
 (sliceRange (sliceBounds lo hi st xs.length).1 (sliceBounds lo hi st xs.length).2.1 (sliceBounds lo hi st xs.length).2.2).filterMap (xs[·]?)
noncomputable def Zh2:Option AV→Option (Option Int)
 | none=>some none
 | some (.int i)=>some (some i)
 | _=>none
noncomputable def Zg0 (a:AV) (lo hi st:Option AV) (Q:AV→Zaa→Prop) (H:Zaa):Prop :=
 match a with
 | .ref a=>(match H a with
  | some (.list xs)=>∃ l u t,Zh2 lo=some l∧Zh2 hi=some u∧Zh2 st=some t∧t≠some 0∧xs.length≤sizeLine∧∀ z,H z=none→Q (.ref z) (up H z (.list (Zbz xs l u t)))
  | _=>False)
 | .str s=>(match lo,hi,st with
  | some (.int l),none,none=>0≤l∧l≤s.length∧s.length≤sizeLine∧Q (.str ⟨(s.cps.toList.drop l.toNat).toArray⟩) H
  | none,some (.int u),none=>0≤u∧u≤s.length∧s.length≤sizeLine∧Q (.str ⟨(s.cps.toList.take u.toNat).toArray⟩) H
  | _,_,_=>False)
 | _=>False
noncomputable def Ze4 (H:Zaa) (v:AV):Option String :=
 match v with
 | .none=>some "NoneType"
 | .bool _=>some "bool"
 | .int _=>some "int"
 | .str _=>some "str"
 | .ref a=>match H a with
  | some (.list _)=>some "list"
  | some (.tuple _)=>some "tuple"
  | some (.dict ..)=>some "dict"
  | _=>none
noncomputable def Zbx (P:Pg) (H:Zaa) (v:AV) (ty:String):Option Bool :=
 if ty = "int"∨ty = "bool"∨ty = "str"∨ty = "list" then (Ze4 H v).map fun k=>k==ty||(k=="bool"&&ty=="int")
 else match v with
 | .ref a=>match H a with
  | some (.exc c)=>if ((P.excs.lookup c).map (·.contains ty)).getD false then some true else if (P.excs.lookup ty).isSome&&(P.excs.lookup c).isSome then some false else none
  | _=>none
 | _=>none
noncomputable def onV1 (vs:List AV) (k:AV→Prop):Prop:=match vs with
 | []=>False
 | v::r=>match r with
  | []=>k v
  | _::_=>False
noncomputable def atL (o:AV) (H:Zaa) (k:Addr→List AV→Prop):Prop:=match o with
 | .ref p=>(match H p with
  | some (.list xs)=>k p xs
  | _=>False)
 | _=>False
noncomputable def atD (o:AV) (H:Zaa) (k:Addr→List (Str×AV)→Prop):Prop:=match o with
 | .ref p=>(match H p with
  | some (.dict _ es)=>k p es
  | _=>False)
 | _=>False
noncomputable def wlen (v:AV) (Q:AV→Zaa→Prop) (H:Zaa):Prop:=match v with
 | .str s=>s.length<2 ^ 62∧Q (.int s.length) H
 | .ref a=>(match H a with
   | some (.list xs)=>xs.length<2 ^ 62∧Q (.int xs.length) H
   | some (.tuple xs)=>xs.length<2 ^ 62∧Q (.int xs.length) H
   | some (.dict _ es)=>es.length<2 ^ 62∧Q (.int es.length) H
   | some (.script ns)=>ns.length<2 ^ 62∧Q (.int ns.length) H
   | _=>False)
 | _=>False
noncomputable def Zft:Zaa→List (Str×AV)→(List Addr→Zaa→Prop)→Prop
 | H,[],k=>k [] H
 | H,e::es,k=>∀ t,H t=none→Zft (up H t (.tuple [.str e.1,e.2])) es fun ts H'=>k (t::ts) H'
noncomputable def Zwu (md:Bool) (v:AV) (Q:AV→Zaa→Prop) (H:Zaa):Prop:=match v with
 | .ref a=>(match H a with
   | some (.list xs)=>xs.length≤sizeLine∧∀ z,H z=none→Q (.ref z) (up H z (.list xs))
   | some (.tuple xs)=>xs.length≤sizeLine∧∀ z,H z=none→Q (.ref z) (up H z (.list xs))
   | some (.dict _ es)=>md=true∧es.length≤sizeLine∧∀ z,H z=none→Q (.ref z) (up H z (.list (es.map fun e=>.str e.1)))
   | some (.vals d)=>(match H d with
    | some (.dict _ es)=>md=true∧es.length≤sizeLine∧∀ z,H z=none→Q (.ref z) (up H z (.list (es.map (·.2))))
    | _=>False)
   | some (.itms d)=>(match H d with
    | some (.dict _ es)=>md=true∧es.length≤sizeLine∧Zft H es fun ts H'=>∀ z,H' z=none→Q (.ref z) (up H' z (.list (ts.map .ref)))
    | _=>False)
   | _=>False)
 | _=>False
noncomputable def wsum (v:AV) (Q:AV→Zaa→Prop) (H:Zaa):Prop:=match v with
 | .ref a=>(match H a with
   | some (.list xs)=>∃ ns:List Int,xs=ns.map .int∧Q (.int ns.sum) H
   | some (.vals d)=>(match H d with
    | some (.dict _ es)=>∃ ns:List Int,es.map (·.2)=ns.map .int∧Q (.int ns.sum) H
    | _=>False)
   | _=>False)
 | _=>False
noncomputable def on1i (a:AV) (k:Int→Prop):Prop:=match a with
 | .int x=>k x
 | _=>False
noncomputable def wi2 (vs:List AV) (k:Int→Int→Prop):Prop:=match vs with
 | []=>False
 | a::r=>onV1 r fun b=>wii a b k
noncomputable def Zdx (md:Bool) (f:Pr) (vs:List AV) (Q:AV→Zaa→Prop) (H:Zaa):Prop :=
 match f with
 | .len=>onV1 vs fun v=>wlen v Q H
 | .list=>onV1 vs fun v=>Zwu md v Q H
 | .int=>onV1 vs fun v=>match v with
  | .bool b=>Q (.int (if b then 1 else 0)) H
  | _=>False
 | .range=>match vs with
  | []=>False
  | a::r=>match r with
   | []=>on1i a fun b=>(-(2 ^ 62)<b∧b<2 ^ 62)∧∀ z,H z=none→Q (.ref z) (up H z (.range 0 b))
   | _::_=>onV1 r fun b=>wii a b fun a b=>(-(2 ^ 62)<a∧a<2 ^ 62∧-(2 ^ 62)<b∧b<2 ^ 62)∧∀ z,H z=none→Q (.ref z) (up H z (.range a b))
 | .sum=>onV1 vs fun v=>md=true∧wsum v Q H
 | .all=>onV1 vs fun v=>md=true∧atL v H fun _ xs=>∃ bs:List Bool,xs=bs.map .bool∧Q (.bool (bs.all id)) H
 | .min=>wi2 vs fun a b=>md=true∧Q (.int (if b<a then b else a)) H
 | _=>False
noncomputable def bookAttrs:List String:=["day","free","aside","pacts"]
noncomputable def wbm (o:AV) (m:BM) (vs:List AV) (Q:AV→Zaa→Prop) (H:Zaa):Prop :=
 match m with
 | .append=>onV1 vs fun v=>atL o H fun p xs=>xs.length≤sizeLine∧Q .none (up H p (.list (xs++[v])))
 | .values=>match vs with
  | []=>atD o H fun p _=>∀ z,H z=none→Q (.ref z) (up H z (.vals p))
  | _::_=>False
 | .pop=>onV1 vs fun v=>match v with
  | .str k=>atD o H fun p es=>es.length≤sizeLine∧∃ v,Zbu es k=some v∧∀ ep,Q v (up H p (.dict ep (es.filter fun e=>e.1≠k)))
  | _=>False
 | .items=>match vs with
  | []=>atD o H fun p _=>∀ z,H z=none→Q (.ref z) (up H z (.itms p))
  | _::_=>False
 | .remove=>onV1 vs fun v=>match v with
  | .str k=>atL o H fun p xs=>xs.length≤sizeLine∧∃ l:List Str,xs=l.map .str∧k∈l∧Q .none (up H p (.list ((l.erase k).map .str)))
  | _=>False
 | _=>False
noncomputable def Zap (H:Zaa):AV→Option (List AV)
 | .ref a=>match H a with
  | some (.list xs)=>some xs
  | some (.tuple xs)=>some xs
  | some (.range lo hi)=>some ((List.range (hi - lo).toNat).map fun (k:Nat)=>AV.int (lo+k))
  | some (.dict _ es)=>some (es.map fun e=>AV.str e.1)
  | _=>none
 | .str s=>some (s.cps.toList.map fun ch=>AV.str ⟨#[ch]⟩)
 | _=>none
noncomputable def Zed (H H':Zaa):AV→Prop
 | .ref a=>H' a=H a
 | _=>True
noncomputable def WFor (QN:VV→Zaa→Prop) (stp:AV→(VV→Zaa→Prop)→VV→Zaa→Prop) (v:AV) (V:VV) (H:Zaa):Prop :=
 ∃ xs,Zap H v=some xs∧∃ I:Nat→VV→Zaa→Prop,I 0 V H ∧
  ∀ k V' H',I k V' H'→Zed H H' v∧(k=xs.length→QN V' H')∧∀ x,xs[k]? = some x→stp x (I (k+1)) V' H'
noncomputable def Zrp (QN:VV→Zaa→Prop) (tst:(Bool→Zaa→Prop)→VV→Zaa→Prop) (bd:(VV→Zaa→Prop)→VV→Zaa→Prop) (V:VV) (H:Zaa):Prop :=
 ∃ I:Nat→VV→Zaa→Prop,(∃ n,I n V H)∧∀ n V' H',I n V' H'→tst (fun b H''=>if b then bd (fun V2 H₂=>∃ m,m<n∧I m V2 H₂) V' H'' else QN V' H'') V' H'
noncomputable def Zk5 (Q:AV→Zaa→Prop) (stp:AV→(Option AV→Zaa→Prop)→Zaa→Prop) (v:AV) (H:Zaa):Prop :=
 ∃ xs,Zap H v=some xs∧xs.length≤sizeLine∧∃ I:Nat→List AV→Zaa→Prop,I 0 [] H ∧
  ∀ k acc H',I k acc H'→Zed H H' v∧(k=xs.length→∀ a,H' a=none→Q (.ref a) (up H' a (.list acc))) ∧
   ∀ x,xs[k]? = some x→stp x (fun r H''=>I (k+1) (acc++r.toList) H'') H'
noncomputable def Zb2 (k:Nat) (x:AV) (H:Zaa) (Q:List AV→Prop):Prop :=
 match x with
 | .ref a=>match H a with
  | some (.tuple xs)=>xs.length=k∧Q xs
  | some (.list xs)=>xs.length=k∧Q xs
  | _=>False
 | _=>False
noncomputable def Zh7 (V:VV):List Nat→List AV→VV
 | i::is,x::xs=>Zh7 (V.set i (some x)) is xs
 | _,_=>V
noncomputable def wtg (t:Tg) (x:AV) (V:VV) (H:Zaa) (Q:VV→Prop):Prop :=
 match t with
 | .var i=>i<V.length∧Q (V.set i (some x))
 | .tup is=>Zb2 is.length x H fun xs=>Q (Zh7 V is xs)
noncomputable def bmOn (m:BM) (x:AV) (H:Zaa):Prop :=
 match x with
 | .str _=>m = .upper
 | .ref p=>match H p with
  | some (.list _)=>m = .append∨m = .clear∨m = .index∨m = .count∨m = .remove
  | some (.dict _ _)=>m = .values∨m = .pop∨m = .items
  | _=>False
 | _=>False
set_option genInjectivity false in
structure Gx where
 c:Cx
 n:Nat
 md:Bool
noncomputable def Zru (P:Pg) (n:String) (x:AV) (Q:AV→Zaa→Prop) (H:Zaa):Prop:=match x with
 | .ref p=>(match H p with
  | some (.inst cl es)=>P.attrs.contains (cl,n)=true∧(match Zeb es n with | some v=>Q v H | none=>False)
  | some (.book B)=>n = "day"∧P.attrs.contains ("Book","day")=true∧Q (.int B.day) H
  | _=>False)
 | _=>False
noncomputable def Zrr (P:Pg) (m:String) (x:AV) (K:String→Addr→Zaa→Prop) (H:Zaa):Prop:=match x with
 | .ref p=>(match H p with
  | some (.inst cl es)=>P.meths.contains (cl,m)=true∧Zeb es m=none∧K (cl++"."++m) p H
  | some (.book _)=>P.meths.contains ("Book",m)=true∧bookAttrs.contains m=false∧K ("Book."++m) p H
  | _=>False)
 | _=>False
noncomputable def wisi (P:Pg) (ty:String) (x:AV) (Q:AV→Zaa→Prop) (H:Zaa):Prop:=match Zbx P H x ty with
 | some b=>Q (.bool b) H
 | none=>False
noncomputable def Zzc (o j x:AV) (Q:Zaa→Prop) (H:Zaa):Prop:=match o,j with
 | .ref p,.str k=>(match H p with
  | some (.dict _ es)=>es.length≤sizeLine∧∀ ep,Q (up H p (.dict ep (putS es k x)))
  | _=>False)
 | .ref p,.int j=>(match H p with
  | some (.list xs)=>0≤j∧j<xs.length∧xs.length<2 ^ 62∧Q (up H p (.list (xs.set j.toNat x)))
  | _=>False)
 | _,_=>False
noncomputable def Zzd (P:Pg) (n:String) (o x:AV) (Q:Zaa→Prop) (H:Zaa):Prop:=match o with
 | .ref p=>(match H p with
  | some (.inst cl es)=>P.attrs.contains (cl,n)=true∧es.length≤100∧Q (up H p (.inst cl (putA es n x)))
  | _=>False)
 | _=>False
mutual
noncomputable def wpX (g:Gx):X→VV→(AV→Zaa→Prop)→(String→Zaa→Prop)→Zaa→Prop
 | .lit v,_,Q,_,H=>Q v H
 | .var i,V,Q,_,H=>match V[i]? with
  | some (some v)=>Q v H
  | _=>False
 | .glob n,_,Q,_,H=>match g.c.P.consts.lookup n with
  | some v=>Q v H
  | none=>False
 | .bin op a b,V,Q,E,H=>wpX g a V (fun x H=>wpX g b V (fun y H=>wbin op x y Q H) E H) E H
 | .neg a,V,Q,E,H=>wpX g a V (fun x H=>match x with | .int i=>Q (.int (-i)) H | _=>False) E H
 | .not a,V,Q,E,H=>wpX g a V (fun x H=>Zbm x H fun b=>Q (.bool (!b)) H) E H
 | .ao isAnd xs,V,Q,E,H=>wpAO g isAnd xs V Q E H
 | .ite c a b,V,Q,E,H=>wpX g c V (fun x H=>Zbm x H fun t=>if t then wpX g a V Q E H else wpX g b V Q E H) E H
 | .cmp op a b,V,Q,E,H=>wpX g a V (fun x H=>wpX g b V (fun y H=>wcmp op x y Q H) E H) E H
 | .cmp2 op1 op2 a b d,V,Q,E,H=>wpX g a V (fun x H=>wpX g b V (fun y H=>wcmp op1 x y (fun r H=>Zbm r H fun t =>
   if t then wpX g d V (fun z H=>wcmp op2 y z Q H) E H else Q r H) H) E H) E H
 | .sub a i,V,Q,E,H=>wpX g a V (fun x H=>wpX g i V (fun y H=>wsub x y Q H) E H) E H
 | .slice a lo hi st,V,Q,E,H=>wpX g a V (fun x H=>wpO g lo V (fun l H=>wpO g hi V (fun u H=>wpO g st V (fun t H=>Zg0 x l u t Q H) E H) E H) E H) E H
 | .attr a n,V,Q,E,H=>wpX g a V (fun x H=>Zru g.c.P n x Q H) E H
 | .call f xs,V,Q,E,H=>wpXs g xs V (fun vs H=>CallOK g.c g.n g.md f vs Q E H) E H
 | .new cl xs,V,Q,E,H=>wpXs g xs V (fun vs H=>∀ a,H a=none→CallOK g.c g.n g.md (cl++".__init__") (.ref a::vs) (fun r H=>r = .none∧Q (.ref a) H) E (up H a (.inst cl []))) E H
 | .meth a m xs,V,Q,E,H=>wpX g a V (fun x H=>Zrr g.c.P m x (fun f p H=>wpXs g xs V (fun vs H=>CallOK g.c g.n g.md f (.ref p::vs) Q E H) E H) H) E H
 | .bm a m xs,V,Q,E,H=>wpX g a V (fun x H=>bmOn m x H∧wpXs g xs V (fun vs H=>wbm x m vs Q H) E H) E H
 | .prim f xs,V,Q,E,H=>wpXs g xs V (fun vs H=>Zdx g.md f vs Q H) E H
 | .isinst a ty,V,Q,E,H=>wpX g a V (fun x H=>wisi g.c.P ty x Q H) E H
 | .list xs,V,Q,E,H=>wpXs g xs V (fun vs H=>∀ a,H a=none→Q (.ref a) (up H a (.list vs))) E H
 | .tuple xs,V,Q,E,H=>wpXs g xs V (fun vs H=>∀ a,H a=none→Q (.ref a) (up H a (.tuple vs))) E H
 | .dict ks vs,V,Q,E,H=>match ks,vs with
  | [],[]=>∀ a,H a=none→Q (.ref a) (up H a (.dict 0 []))
  | [k],[v]=>wpX g k V (fun k H=>wpX g v V (fun v H=>match k with | .str k=>∀ a ep,H a=none→Q (.ref a) (up H a (.dict ep [(k,v)])) | _=>False) E H) E H
  | _,_=>False
 | .comp e k tup it c,V,Q,E,H=>g.md=true∧wpX g it V (fun v H=>Zk5 Q (fun x nx H =>
   if tup then Zb2 k x H fun xs=>wpC g c (V++xs.map some) (fun b H=>if b then wpX g e (V++xs.map some) (fun y H=>nx (some y) H) (fun _ _=>False) H else nx none H) (fun _ _=>False) H
   else wpC g c (V++[some x]) (fun b H=>if b then wpX g e (V++[some x]) (fun y H=>nx (some y) H) (fun _ _=>False) H else nx none H) (fun _ _=>False) H) v H) E H
noncomputable def wpXs (g:Gx):List X→VV→(List AV→Zaa→Prop)→(String→Zaa→Prop)→Zaa→Prop
 | [],_,Q,_,H=>Q [] H
 | x::r,V,Q,E,H=>wpX g x V (fun v H=>wpXs g r V (fun vs H=>Q (v::vs) H) E H) E H
noncomputable def wpAO (g:Gx) (isAnd:Bool):List X→VV→(AV→Zaa→Prop)→(String→Zaa→Prop)→Zaa→Prop
 | [],_,_,_,_=>False
 | x::r,V,Q,E,H=>wpX g x V (fun v H=>match r with
   | []=>Q v H
   | _::_=>Zbm v H fun b=>if b=isAnd then wpAO g isAnd r V Q E H else Q v H) E H
noncomputable def wpO (g:Gx):Option X→VV→(Option AV→Zaa→Prop)→(String→Zaa→Prop)→Zaa→Prop
 | none,_,Q,_,H=>Q none H
 | some x,V,Q,E,H=>wpX g x V (fun v H=>Q (some v) H) E H
noncomputable def wpC (g:Gx):Option X→VV→(Bool→Zaa→Prop)→(String→Zaa→Prop)→Zaa→Prop
 | none,_,Q,_,H=>Q true H
 | some x,V,Q,E,H=>wpX g x V (fun v H=>Zbm v H fun b=>Q b H) E H
end
noncomputable def wpT (g:Gx) (t:T) (x:AV) (V:VV) (Q:VV→Zaa→Prop) (E:String→Zaa→Prop) (H:Zaa):Prop :=
 match t with
 | .var i=>i<V.length∧Q (V.set i (some x)) H
 | .tup is=>g.md=true∧Zb2 is.length x H fun xs=>Q (Zh7 V is xs) H
 | .sub a i=>wpX g a V (fun o H=>wpX g i V (fun j H=>Zzc o j x (Q V) H) E H) E H
 | .attr a n=>wpX g a V (fun o H=>Zzd g.c.P n o x (Q V) H) E H
noncomputable def Zd3 (P:Pg) (cl c:String):Bool:=((P.excs.lookup cl).map (·.contains c)).getD false
mutual
noncomputable def wpS (g:Gx):S→(VV→Zaa→Prop)→(AV→Zaa→Prop)→(String→VV→Zaa→Prop)→VV→Zaa→Prop
 | .assign t e,QN,_,E,V,H=>wpX g e V (fun x H=>wpT g t x V QN (fun cl H=>E cl V H) H) (fun cl H=>E cl V H) H
 | .expr e,QN,_,E,V,H=>wpX g e V (fun _ H=>QN V H) (fun cl H=>E cl V H) H
 | .ret e,_,QR,E,V,H=>wpX g e V QR (fun cl H=>E cl V H) H
 | .ite c a b,QN,QR,E,V,H=>wpX g c V (fun x H=>Zbm x H fun t=>if t then wpSs g a QN QR E V H else wpSs g b QN QR E V H) (fun cl H=>E cl V H) H
 | .while c body,QN,QR,E,V,H=>g.md=true∧Zrp QN (fun q V H=>wpX g c V (fun x H=>Zbm x H fun t=>q t H) (fun cl H=>E cl V H) H)
   (fun q V H=>wpSs g body q QR E V H) V H
 | .for t it body,QN,QR,E,V,H=>g.md=true∧wpX g it V (fun v H=>WFor QN (fun x nx V H=>wtg t x V H fun V=>wpSs g body nx QR E V H) v V H) (fun cl H=>E cl V H) H
 | .raise cl _,_,_,E,V,H=>g.md=true∧E cl V H
 | .try body hs,QN,QR,E,V,H=>g.md=true∧wpSs g body QN QR (fun cl V H=>wpHs g hs cl QN QR E V H) V H
 | .pass,QN,_,_,V,H=>QN V H
noncomputable def wpSs (g:Gx):List S→(VV→Zaa→Prop)→(AV→Zaa→Prop)→(String→VV→Zaa→Prop)→VV→Zaa→Prop
 | [],QN,_,_,V,H=>QN V H
 | s::r,QN,QR,E,V,H=>wpS g s (fun V H=>wpSs g r QN QR E V H) QR E V H
noncomputable def wpHs (g:Gx):List Hd→String→(VV→Zaa→Prop)→(AV→Zaa→Prop)→(String→VV→Zaa→Prop)→VV→Zaa→Prop
 | [],_,_,_,_,_,_=>False
 | h::r,cl,QN,QR,E,V,H=>wpH g h cl (wpHs g r cl QN QR E V H) QN QR E V H
noncomputable def wpH (g:Gx):Hd→String→Prop→(VV→Zaa→Prop)→(AV→Zaa→Prop)→(String→VV→Zaa→Prop)→VV→Zaa→Prop
 | .mk c nm b,cl,nope,QN,QR,_,V,H =>
  if Zd3 g.c.P cl c then
   (match nm with
   | none=>wpSs { g with md:=false } b QN QR (fun _ _ _=>False) V H
   | some i=>∀ a,H a=none→i<V.length∧wpSs { g with md:=false } b (fun V H=>QN (V.set i none) H) QR (fun _ _ _=>False) (V.set i (some (.ref a))) (up H a (.exc cl)))
  else nope
end
section
variable {g:Gx} {V:VV} {Q:AV→Zaa→Prop} {E:String→Zaa→Prop} {H:Zaa} {QL:List AV→Zaa→Prop}
theorem v_0 {x:Option AV} {r:VV}:(x::r)[0]? = some x:=rfl
theorem Zai {v:AV}:wpX g (.lit v) V Q E H=Q v H:=rfl
theorem Zad {i:Nat}:wpX g (.var i) V Q E H=(match V[i]? with | some (some v)=>Q v H | _=>False):=rfl
theorem Zau {op:Operator} {a b:X}:wpX g (.bin op a b) V Q E H=wpX g a V (fun x H=>wpX g b V (fun y H=>wbin op x y Q H) E H) E H:=rfl
theorem Zbq {a:X}:wpX g (.neg a) V Q E H=wpX g a V (fun x H=>match x with | .int i=>Q (.int (-i)) H | _=>False) E H:=rfl
theorem Zba {a:X}:wpX g (.not a) V Q E H=wpX g a V (fun x H=>Zbm x H fun b=>Q (.bool (!b)) H) E H:=rfl
theorem x_ao {b:Bool} {xs:List X}:wpX g (.ao b xs) V Q E H=wpAO g b xs V Q E H:=rfl
theorem Zbp {c a b:X}:wpX g (.ite c a b) V Q E H=wpX g c V (fun x H=>Zbm x H fun t=>if t then wpX g a V Q E H else wpX g b V Q E H) E H:=rfl
theorem Zan {op:CmpOp} {a b:X}:wpX g (.cmp op a b) V Q E H=wpX g a V (fun x H=>wpX g b V (fun y H=>wcmp op x y Q H) E H) E H:=rfl
theorem Za2 {o₁ o₂:CmpOp} {a b d:X}:wpX g (.cmp2 o₁ o₂ a b d) V Q E H=wpX g a V (fun x H=>wpX g b V (fun y H=>wcmp o₁ x y (fun r H=>Zbm r H fun t=>if t then wpX g d V (fun z H=>wcmp o₂ y z Q H) E H else Q r H) H) E H) E H:=rfl
theorem Zat {a i:X}:wpX g (.sub a i) V Q E H=wpX g a V (fun x H=>wpX g i V (fun y H=>wsub x y Q H) E H) E H:=rfl
theorem Zas {a:X} {lo hi st:Option X}:wpX g (.slice a lo hi st) V Q E H=wpX g a V (fun x H=>wpO g lo V (fun l H=>wpO g hi V (fun u H=>wpO g st V (fun t H=>Zg0 x l u t Q H) E H) E H) E H) E H:=rfl
theorem Za1 {n:String}:wpX g (.glob n) V Q E H=(match g.c.P.consts.lookup n with | some v=>Q v H | none=>False):=rfl
theorem Zao {f:String} {xs:List X}:wpX g (.call f xs) V Q E H=wpXs g xs V (fun vs H=>CallOK g.c g.n g.md f vs Q E H) E H:=rfl
theorem Zal {f:Pr} {xs:List X}:wpX g (.prim f xs) V Q E H=wpXs g xs V (fun vs H=>Zdx g.md f vs Q H) E H:=rfl
theorem x_bm {a:X} {m:BM} {xs:List X}:wpX g (.bm a m xs) V Q E H=wpX g a V (fun x H=>bmOn m x H∧wpXs g xs V (fun vs H=>wbm x m vs Q H) E H) E H:=rfl
theorem Zbn {a:X} {ty:String}:wpX g (.isinst a ty) V Q E H=wpX g a V (fun x H=>match Zbx g.c.P H x ty with | some b=>Q (.bool b) H | none=>False) E H:=rfl
theorem Zaz {xs:List X}:wpX g (.list xs) V Q E H=wpXs g xs V (fun vs H=>∀ a,H a=none→Q (.ref a) (up H a (.list vs))) E H:=rfl
theorem Zbj {xs:List X}:wpX g (.tuple xs) V Q E H=wpXs g xs V (fun vs H=>∀ a,H a=none→Q (.ref a) (up H a (.tuple vs))) E H:=rfl
theorem Zcd {cl:String} {xs:List X}:wpX g (.new cl xs) V Q E H=wpXs g xs V (fun vs H=>∀ a,H a=none→CallOK g.c g.n g.md (cl++".__init__") (.ref a::vs) (fun r H=>r = .none∧Q (.ref a) H) E (up H a (.inst cl []))) E H:=rfl
theorem Zaq:wpX g (.dict [] []) V Q E H=(∀ a,H a=none→Q (.ref a) (up H a (.dict 0 []))):=rfl
theorem Zah:wpXs g [] V QL E H=QL [] H:=rfl
theorem Zae {x:X} {r:List X}:wpXs g (x::r) V QL E H=wpX g x V (fun v H=>wpXs g r V (fun vs H=>QL (v::vs) H) E H) E H:=rfl
theorem Za7 {b:Bool} {x:X}:wpAO g b [x] V Q E H=wpX g x V Q E H:=rfl
theorem Zav {b:Bool} {x y:X} {r:List X}:wpAO g b (x::y::r) V Q E H=wpX g x V (fun v H=>Zbm v H fun t=>if t=b then wpAO g b (y::r) V Q E H else Q v H) E H:=rfl
theorem Zb9 {QO:Option AV→Zaa→Prop}:wpO g none V QO E H=QO none H:=rfl
theorem Zb0 {QO:Option AV→Zaa→Prop} {x:X}:wpO g (some x) V QO E H=wpX g x V (fun v H=>QO (some v) H) E H:=rfl
theorem Zb1 {QC:Bool→Zaa→Prop}:wpC g none V QC E H=QC true H:=rfl
theorem Zbs {QC:Bool→Zaa→Prop} {x:X}:wpC g (some x) V QC E H=wpX g x V (fun v H=>Zbm v H fun b=>QC b H) E H:=rfl
end
section
variable {g:Gx} {V:VV} {QN:VV→Zaa→Prop} {QR:AV→Zaa→Prop} {E:String→VV→Zaa→Prop} {EE:String→Zaa→Prop} {H:Zaa} {x:AV}
theorem tv {i:Nat}:wpT g (.var i) x V QN EE H=(i<V.length∧QN (V.set i (some x)) H):=rfl
theorem tsub {a i:X}:wpT g (.sub a i) x V QN EE H=wpX g a V (fun o H=>wpX g i V (fun j H=>match o,j with
   | .ref p,.str k=>(match H p with
    | some (.dict _ es)=>es.length≤sizeLine∧∀ ep,QN V (up H p (.dict ep (putS es k x)))
    | _=>False)
   | .ref p,.int j=>(match H p with
    | some (.list xs)=>0≤j∧j<xs.length∧xs.length<2 ^ 62∧QN V (up H p (.list (xs.set j.toNat x)))
    | _=>False)
   | _,_=>False) EE H) EE H:=rfl
theorem tattr {a:X} {n:String}:wpT g (.attr a n) x V QN EE H=wpX g a V (fun o H=>match o with
   | .ref p=>(match H p with
    | some (.inst cl es)=>g.c.P.attrs.contains (cl,n)=true∧es.length≤100∧QN V (up H p (.inst cl (putA es n x)))
    | _=>False)
   | _=>False) EE H:=rfl
theorem ttup {is:List Nat}:wpT g (.tup is) x V QN EE H=(g.md=true∧Zb2 is.length x H fun xs=>QN (Zh7 V is xs) H):=rfl
theorem Zar {e:X}:wpS g (.expr e) QN QR E V H=wpX g e V (fun _ H=>QN V H) (fun cl H=>E cl V H) H:=rfl
theorem Za4 {cl:String} {m:Str}:wpS g (.raise cl m) QN QR E V H=(g.md=true∧E cl V H):=rfl
theorem Zb3 {t:Tg} {it:X} {b:List S}:wpS g (.for t it b) QN QR E V H=(g.md=true∧wpX g it V (fun v H=>WFor QN (fun x nx V H=>wtg t x V H fun V=>wpSs g b nx QR E V H) v V H) (fun cl H=>E cl V H) H):=rfl
theorem Zbv {cn:X} {b:List S}:wpS g (.while cn b) QN QR E V H=(g.md=true∧Zrp QN (fun q V H=>wpX g cn V (fun x H=>Zbm x H fun t=>q t H) (fun cl H=>E cl V H) H) (fun q V H=>wpSs g b q QR E V H) V H):=rfl
theorem Zdg {b:List S} {hs:List Hd}:wpS g (.try b hs) QN QR E V H=(g.md=true∧wpSs g b QN QR (fun cl V H=>wpHs g hs cl QN QR E V H) V H):=rfl
end
section
variable {g:Gx} {V:VV} {Q:AV→Zaa→Prop} {E:String→Zaa→Prop} {H:Zaa}
theorem Za5 {a:X} {n:String}:wpX g (.attr a n) V Q E H=wpX g a V (fun x H=>match x with
   | .ref p=>(match H p with
    | some (.inst cl es)=>g.c.P.attrs.contains (cl,n)=true∧(match Zeb es n with | some v=>Q v H | none=>False)
    | some (.book B)=>n = "day"∧g.c.P.attrs.contains ("Book","day")=true∧Q (.int B.day) H
    | _=>False)
   | _=>False) E H:=rfl
theorem Zbe {a:X} {m:String} {xs:List X}:wpX g (.meth a m xs) V Q E H=wpX g a V (fun x H=>match x with
   | .ref p=>(match H p with
    | some (.inst cl es)=>g.c.P.meths.contains (cl,m)=true∧Zeb es m=none∧wpXs g xs V (fun vs H=>CallOK g.c g.n g.md (cl++"."++m) (.ref p::vs) Q E H) E H
    | some (.book _)=>g.c.P.meths.contains ("Book",m)=true∧bookAttrs.contains m=false∧wpXs g xs V (fun vs H=>CallOK g.c g.n g.md ("Book."++m) (.ref p::vs) Q E H) E H
    | _=>False)
   | _=>False) E H:=rfl
theorem Za9 {k v:X}:wpX g (.dict [k] [v]) V Q E H=wpX g k V (fun k H=>wpX g v V (fun v H=>match k with | .str k=>∀ a ep,H a=none→Q (.ref a) (up H a (.dict ep [(k,v)])) | _=>False) E H) E H:=rfl
theorem Zbf {e:X} {k:Nat} {tup:Bool} {it:X} {c:Option X}:wpX g (.comp e k tup it c) V Q E H=(g.md=true∧wpX g it V (fun v H=>Zk5 Q (fun x nx H =>
   if tup then Zb2 k x H fun xs=>wpC g c (V++xs.map some) (fun b H=>if b then wpX g e (V++xs.map some) (fun y H=>nx (some y) H) (fun _ _=>False) H else nx none H) (fun _ _=>False) H
   else wpC g c (V++[some x]) (fun b H=>if b then wpX g e (V++[some x]) (fun y H=>nx (some y) H) (fun _ _=>False) H else nx none H) (fun _ _=>False) H) v H) E H):=rfl
end
section
variable {g:Gx} {QN:VV→Zaa→Prop} {QR:AV→Zaa→Prop} {E:String→VV→Zaa→Prop} {V:VV} {H:Zaa}
theorem Zay {c:X} {a b:List S}:wpS g (.ite c a b) QN QR E V H=wpX g c V (fun x H=>Zbm x H fun t=>if t then wpSs g a QN QR E V H else wpSs g b QN QR E V H) (fun cl H=>E cl V H) H:=rfl
theorem Zbh {e:X}:wpS g (.ret e) QN QR E V H=wpX g e V QR (fun cl H=>E cl V H) H:=rfl
theorem Zam {t:T} {e:X}:wpS g (.assign t e) QN QR E V H=wpX g e V (fun x H=>wpT g t x V QN (fun cl H=>E cl V H) H) (fun cl H=>E cl V H) H:=rfl
theorem w_st {s:S} {r:List S} (h:∀ K:VV→Zaa→Prop,(∀ V H,wpSs g r QN QR E V H→K V H)→wpS g s K QR E V H):wpSs g (s::r) QN QR E V H:=h _ fun _ _ h=>h
theorem Zeg:wpSs g [] QN QR E V H=QN V H:=rfl
theorem Zaw {s:S} {r:List S}:wpSs g (s::r) QN QR E V H=wpS g s (fun V H=>wpSs g r QN QR E V H) QR E V H:=rfl
theorem Zcv:wpS g .pass QN QR E V H=QN V H:=rfl
theorem Zfz {h:Hd} {r:List Hd} {cl:String}:wpHs g (h::r) cl QN QR E V H=wpH g h cl (wpHs g r cl QN QR E V H) QN QR E V H:=rfl
theorem Zqn {c:String} {nm:Option Nat} {b:List S} {cl:String} {N:Prop}:wpH g (.mk c nm b) cl N QN QR E V H=(if Zd3 g.c.P cl c then
   (match nm with
   | none=>wpSs { g with md:=false } b QN QR (fun _ _ _=>False) V H
   | some i=>∀ a,H a=none→i<V.length∧wpSs { g with md:=false } b (fun V H=>QN (V.set i none) H) QR (fun _ _ _=>False) (V.set i (some (.ref a))) (up H a (.exc cl)))
  else N):=rfl
end
section
variable {md:Bool} {Q:AV→Zaa→Prop} {H:Zaa} {a p:Addr} {v:AV}
theorem Zj9 {s:Str}:Zdx md .len [.str s] Q H=(s.length<2 ^ 62∧Q (.int s.length) H):=rfl
theorem Zhh {b:Int}:Zdx md .range [.int b] Q H=((-(2 ^ 62)<b∧b<2 ^ 62)∧∀ z,H z=none→Q (.ref z) (up H z (.range 0 b))):=rfl
theorem Zgv {a b:Int}:Zdx md .range [.int a,.int b] Q H=((-(2 ^ 62)<a∧a<2 ^ 62∧-(2 ^ 62)<b∧b<2 ^ 62)∧∀ z,H z=none→Q (.ref z) (up H z (.range a b))):=rfl
theorem Zsi {b:Bool}:Zdx md .int [.bool b] Q H=Q (.int (if b then 1 else 0)) H:=rfl
theorem Zz2 {a b:Int}:Zdx md .min [.int a,.int b] Q H=(md=true∧Q (.int (if b<a then b else a)) H):=rfl
theorem Zot {s:Str} {i:Int}:wsub (.str s) (.int i) Q H=(0≤i∧i<2 ^ 63∧∃ ch,s.cps[i.toNat]? = some ch∧Q (.str ⟨#[ch]⟩) H):=rfl
theorem Zzm {s:Str} {l:Int}:Zg0 (.str s) (some (.int l)) none none Q H=(0≤l∧l≤s.length∧s.length≤sizeLine∧Q (.str ⟨(s.cps.toList.drop l.toNat).toArray⟩) H):=rfl
theorem Zzn {s:Str} {u:Int}:Zg0 (.str s) none (some (.int u)) none Q H=(0≤u∧u≤s.length∧s.length≤sizeLine∧Q (.str ⟨(s.cps.toList.take u.toNat).toArray⟩) H):=rfl
theorem Zee:Zdx md .len [.ref a] Q H=(match H a with
   | some (.list xs)=>xs.length<2 ^ 62∧Q (.int xs.length) H
   | some (.tuple xs)=>xs.length<2 ^ 62∧Q (.int xs.length) H
   | some (.dict _ es)=>es.length<2 ^ 62∧Q (.int es.length) H
   | some (.script ns)=>ns.length<2 ^ 62∧Q (.int ns.length) H
   | _=>False):=rfl
theorem Zdt:Zdx md .list [.ref a] Q H=(match H a with
   | some (.list xs)=>xs.length≤sizeLine∧∀ z,H z=none→Q (.ref z) (up H z (.list xs))
   | some (.tuple xs)=>xs.length≤sizeLine∧∀ z,H z=none→Q (.ref z) (up H z (.list xs))
   | some (.dict _ es)=>md=true∧es.length≤sizeLine∧∀ z,H z=none→Q (.ref z) (up H z (.list (es.map fun e=>.str e.1)))
   | some (.vals d)=>(match H d with
    | some (.dict _ es)=>md=true∧es.length≤sizeLine∧∀ z,H z=none→Q (.ref z) (up H z (.list (es.map (·.2))))
    | _=>False)
   | some (.itms d)=>(match H d with
    | some (.dict _ es)=>md=true∧es.length≤sizeLine∧Zft H es fun ts H'=>∀ z,H' z=none→Q (.ref z) (up H' z (.list (ts.map .ref)))
    | _=>False)
   | _=>False):=rfl
theorem Zgg:Zdx md .sum [.ref a] Q H=(md=true∧(match H a with
   | some (.list xs)=>∃ ns:List Int,xs=ns.map .int∧Q (.int ns.sum) H
   | some (.vals d)=>(match H d with
    | some (.dict _ es)=>∃ ns:List Int,es.map (·.2)=ns.map .int∧Q (.int ns.sum) H
    | _=>False)
   | _=>False)):=rfl
theorem Zid:Zdx md .all [.ref a] Q H=(md=true∧(match H a with
   | some (.list xs)=>∃ bs:List Bool,xs=bs.map .bool∧Q (.bool (bs.all id)) H
   | _=>False)):=rfl
theorem Z0b:wbm (.ref p) .append [v] Q H=(match H p with
  | some (.list xs)=>xs.length≤sizeLine∧Q .none (up H p (.list (xs++[v])))
  | _=>False):=rfl
theorem Zvp:wbm (.ref p) .values [] Q H=(match H p with
  | some (.dict _ _)=>∀ z,H z=none→Q (.ref z) (up H z (.vals p))
  | _=>False):=rfl
theorem Zx1 {k:Str}:wbm (.ref p) .pop [.str k] Q H=(match H p with
  | some (.dict _ es)=>es.length≤sizeLine∧∃ v,Zbu es k=some v∧∀ ep,Q v (up H p (.dict ep (es.filter fun e=>e.1≠k)))
  | _=>False):=rfl
theorem Z0a:wbm (.ref p) .items [] Q H=(match H p with
  | some (.dict _ _)=>∀ z,H z=none→Q (.ref z) (up H z (.itms p))
  | _=>False):=rfl
theorem Zz9 {k:Str}:wbm (.ref p) .remove [.str k] Q H=(match H p with
  | some (.list xs)=>xs.length≤sizeLine∧∃ l:List Str,xs=l.map .str∧k∈l∧Q .none (up H p (.list ((l.erase k).map .str)))
  | _=>False):=rfl
theorem Zw1 {P:Bool→Prop}:Zbm (.ref a) H P=(match H a with
  | some (.list xs)=>xs.length<2 ^ 62∧P (!xs.isEmpty)
  | some (.tuple xs)=>xs.length<2 ^ 62∧P (!xs.isEmpty)
  | _=>False):=rfl
theorem Zgf {i:Int}:wsub (.ref a) (.int i) Q H=(match H a with
  | some (.list xs)=>∃ j v,Zgn xs.length i=some j∧i<2 ^ 63∧-(2 ^ 63)≤i∧xs[j]? = some v∧Q v H
  | some (.tuple xs)=>∃ j v,Zgn xs.length i=some j∧i<2 ^ 63∧-(2 ^ 63)≤i∧xs[j]? = some v∧Q v H
  | some (.script ns)=>0≤i∧i<2 ^ 63∧∃ n,ns[i.toNat]? = some n∧Q (.int n) H
  | _=>False):=rfl
theorem Zge {k:Str}:wsub (.ref a) (.str k) Q H=(match H a with
  | some (.dict _ es)=>∃ v,Zbu es k=some v∧Q v H
  | _=>False):=rfl
theorem Zt3 {lo hi st:Option AV}:Zg0 (.ref a) lo hi st Q H=(match H a with
  | some (.list xs)=>∃ l u t,Zh2 lo=some l∧Zh2 hi=some u∧Zh2 st=some t∧t≠some 0∧xs.length≤sizeLine∧∀ z,H z=none→Q (.ref z) (up H z (.list (Zbz xs l u t)))
  | _=>False):=rfl
theorem Ze7 {no:Bool} {x:AV}:win no x (.ref a) Q H=(match H a with
  | some (.list ys)=>∃ d ds,RD H x d∧RDs H ys ds∧okD d∧Zf0 ds=true∧Q (.bool (nt no (ds.any fun y=>PyData.eqv y d))) H
  | some (.tuple ys)=>∃ d ds,RD H x d∧RDs H ys ds∧okD d∧Zf0 ds=true∧Q (.bool (nt no (ds.any fun y=>PyData.eqv y d))) H
  | some (.dict _ es)=>match x with
   | .str k=>Q (.bool (nt no (Zbu es k).isSome)) H
   | _=>False
  | _=>False):=rfl
theorem Zhr {no:Bool} {x:AV} {s:Str}:win no x (.str s) Q H=(match x with
  | .str k=>∃ ch,k=⟨#[ch]⟩∧Q (.bool (nt no (s.cps.toList.contains ch))) H
  | _=>False):=rfl
end
theorem Zyx {x y:Str}:PyData.eqv (.str x) (.str y)=(x==y):=rfl
theorem Z0k {x y:List PyData}:PyData.eqv (.list x) (.list y)=PyData.eqvAll x y:=rfl
theorem Z0l {x y:PyData} {r q:List PyData}:PyData.eqvAll (x::r) (y::q)=(PyData.eqv x y&&PyData.eqvAll r q):=rfl
end Mine
end
section
namespace Mine
theorem lts {h:Heap} {a:Addr} {o:Obj} (e:h.get? a=some o):@LT.lt Nat _ a h.objs.size:=Heap.lt_size e
theorem leN {a b:Nat} (h:a≤b):a≤b:=h
theorem Zac {H:Zaa} {a:Addr} {o:AObj}:up H a o a=some o:=by simp [up]
theorem Zab {H:Zaa} {a b:Addr} {o:AObj} (h:b≠a):up H a o b=H b:=by simp [up,h]
theorem Zak {R:RR} {a:Addr} {r:Res}:rup R a r a=some r:=by simp [rup]
theorem Zaf {R:RR} {a b:Addr} {r:Res} (h:b≠a):rup R a r b=R b:=by simp [rup,h]
theorem Zmy {h:Heap} {a:Addr} (e:h.objs.size≤a):h.get? a=none:=by
 cases q:h.get? a with
 | none=>rfl
 | some o=>have:=lts q;have:=leN e;omega
theorem abv {c:Cx} {a:Addr} {o:AObj} (h:c.base.objs.size≤a):Abv c a o:=⟨fun _=>Zmy h,fun _=>h⟩
theorem VRs.length {as vs} (h:VRs as vs):as.length=vs.length:=by
 induction h with
 | nil=>rfl
 | cons _ _ ih=>simp [ih]
theorem VRs.get {as vs} (h:VRs as vs):∀ {i:Nat} {a:AV},as[i]? = some a→∃ v,vs[i]? = some v∧VR a v:=by
 induction h with
 | nil=>intro i a e;simp at e
 | cons ha _ ih =>
  intro i a e
  cases i with
  | zero=>simp at e;subst e;exact ⟨_,by simp,ha⟩
  | succ i=>simp at e;obtain ⟨v,h1,h2⟩:=ih e;exact ⟨v,by simpa using h1,h2⟩
theorem VRs.append {as vs bs us} (h:VRs as vs) (k:VRs bs us):VRs (as++bs) (vs++us):=by
 induction h with
 | nil=>exact k
 | cons ha _ ih=>exact .cons ha ih
theorem VRs.one {a v} (h:VR a v):VRs [a] [v]:=.cons h .nil
theorem VRs.drop {as vs} (h:VRs as vs) (n:Nat):VRs (as.drop n) (vs.drop n):=by
 induction h generalizing n with
 | nil=>simp;exact .nil
 | cons ha hr ih=>cases n with
  | zero=>exact .cons ha hr
  | succ n=>exact ih n
theorem VRs.take {as vs} (h:VRs as vs) (n:Nat):VRs (as.take n) (vs.take n):=by
 induction h generalizing n with
 | nil=>simp;exact .nil
 | cons ha hr ih=>cases n with
  | zero=>exact .nil
  | succ n=>exact .cons ha (ih n)
theorem VRs.set {as vs} (h:VRs as vs) {a v} (hv:VR a v) (n:Nat):VRs (as.set n a) (vs.set n v):=by
 induction h generalizing n with
 | nil=>exact .nil
 | cons ha hr ih=>cases n with
  | zero=>exact .cons hv hr
  | succ n=>exact .cons ha (ih n)
theorem ORep.there {c:Cx} {h:Heap} {D:Addr→Addr} {a:Addr} {o:AObj} (r:ORep c h D a o):∃ ob,h.get? a=some ob:=by
 cases o with
 | book=>exact r.elim
 | list=>obtain ⟨_,_,e,_⟩:=r;exact ⟨_,e⟩
 | tuple=>obtain ⟨_,_,e,_⟩:=r;exact ⟨_,e⟩
 | dict=>obtain ⟨_,⟨_,_,e,_⟩,_⟩:=r;exact ⟨_,e⟩
 | inst=>exact ⟨_,r.1⟩
 | range=>obtain ⟨_,_,_,_,e⟩:=r;exact ⟨_,e⟩
 | vals=>exact ⟨_,r⟩
 | itms=>exact ⟨_,r⟩
 | exc=>obtain ⟨_,e,_⟩:=r;exact ⟨_,e⟩
 | script=>obtain ⟨_,_,e,_⟩:=r;exact ⟨_,e⟩
theorem ORep.agree {c:Cx} {h h':Heap} {D D':Addr→Addr} {a:Addr} {o:AObj} (r:ORep c h D a o) (e:∀ ob,h.get? a=some ob→h'.get? a=some ob)
  (e2:∀ cl es,o = .inst cl es→D' a=D a∧∀ ob,h.get? (D a)=some ob→h'.get? (D a)=some ob):ORep c h' D' a o:=by
 cases o with
 | book=>exact r.elim
 | list=>obtain ⟨vs,n,q,x⟩:=r;exact ⟨vs,n,e _ q,x⟩
 | tuple=>obtain ⟨vs,n,q,x⟩:=r;exact ⟨vs,n,e _ q,x⟩
 | dict=>obtain ⟨kvs,⟨o,es,q,x⟩,y⟩:=r;exact ⟨kvs,⟨o,es,e _ q,x⟩,y⟩
 | inst cl es =>
  obtain ⟨q,ents,n,q2,x⟩:=r
  obtain ⟨d1,d2⟩:=e2 cl es rfl
  exact ⟨by refine rl d1 ?_;exact e _ q,ents,n,by refine rl d1 ?_;exact d2 _ q2,x⟩
 | range=>obtain ⟨z,t,u,v,q⟩:=r;exact ⟨z,t,u,v,e _ q⟩
 | vals=>exact e _ r
 | itms=>exact e _ r
 | exc=>obtain ⟨o,q,x⟩:=r;exact ⟨o,e _ q,x⟩
 | script=>obtain ⟨vs,n,q,x⟩:=r;exact ⟨vs,n,e _ q,x⟩
theorem ResAt.agree {h h':Heap} {b:Addr} {r:Res} (x:ResAt h b r) (e:∀ ob,h.get? b=some ob→h'.get? b=some ob):ResAt h' b r:=by
 cases r with
 | ns m=>obtain ⟨o,es,ep,q,y⟩:=x;exact ⟨o,es,ep,e _ q,y⟩
 | cell v=>obtain ⟨o,q,y⟩:=x;exact ⟨o,e _ q,y⟩
 | obj o=>exact e _ x
theorem ResAt.there {h:Heap} {b:Addr} {r:Res} (x:ResAt h b r):∃ ob,h.get? b=some ob:=by
 cases r with
 | ns m=>obtain ⟨o,es,ep,q,y⟩:=x;exact ⟨o,q⟩
 | cell v=>obtain ⟨o,q,y⟩:=x;exact ⟨o,q⟩
 | obj o=>exact ⟨_,x⟩
section
variable {c:Cx} {R R':RR} {H:Zaa} {h h':Heap}
theorem St1.weaken (S:St1 c R' H h) (k:∀ b r,R b=some r→R' b=some r):St1 c R H h:=by
 obtain ⟨s1,s2,s3,D,s4⟩:=S
 have nn:∀ a,R' a=none→R a=none:=fun a e=>by
  cases q:R a with
  | none=>rfl
  | some r=>rw [k a r q] at e;contradiction
 exact ⟨s1,s2,fun b r e=>s3 b r (k b r e),D,⟨s4.rep,fun a o e=>⟨(s4.above a o e).1,nn _ (s4.above a o e).2⟩,
  fun a cl es e=>⟨(s4.dict a cl es e).1,nn _ (s4.dict a cl es e).2.1,(s4.dict a cl es e).2.2⟩,s4.inj⟩⟩
theorem St1.keeps (S:St1 c R H h) (k:∀ b o,h.get? b=some o→h'.get? b=some o) (hs:h.objs.size≤h'.objs.size):St1 c R H h':=by
 obtain ⟨s1,s2,s3,D,s4⟩:=S
 exact ⟨fun b o e=>k b o (s1 b o e),Nat.le_trans s2 hs,fun b r e=>⟨(s3 b r e).1,(s3 b r e).2.agree fun _=>k _ _⟩,D,
  ⟨fun a o e=>(s4.rep a o e).agree (fun _=>k _ _) fun _ _ _=>⟨rfl,fun _=>k _ _⟩,s4.above,s4.dict,s4.inj⟩⟩
theorem St1.push (S:St1 c R H h) (o:Obj):St1 c R H (h.push o):=S.keeps (fun _ _ e=>Heap.get?_push_of_some o e) (by refine rl (Heap.size_push ..) ?_;lia)
theorem St1.freeH (S:St1 c R H h) {x:Addr} (hx:h.objs.size≤x):H x=none:=by
 cases q:H x with
 | none=>rfl
 | some o =>
  obtain ⟨D,s4⟩:=S.rep
  obtain ⟨ob,e⟩:=(s4.rep _ _ q).there
  have:=lts e;have:=leN hx;omega
theorem St1.freeR (S:St1 c R H h) {x:Addr} (hx:h.objs.size≤x):R x=none:=by
 cases q:R x with
 | none=>rfl
 | some o =>
  obtain ⟨ob,e⟩:=(S.res _ _ q).2.there
  have:=lts e;have:=leN hx;omega
theorem St1.newObj (S:St1 c R H h) {x:Addr} {o:AObj} (hx:h.objs.size≤x) (k:∀ b ob,h.get? b=some ob→h'.get? b=some ob) (hs:h.objs.size≤h'.objs.size)
  (hni:∀ cl es,o≠.inst cl es) (ho:∀ D,ORep c h' D x o):H x=none∧St1 c R (up H x o) h':=by
 refine ⟨S.freeH hx,?_⟩
 have hRx:=S.freeR hx
 have hb:=S.size
 have S':=S.keeps k hs
 obtain ⟨s1,s2,s3,D,s4⟩:=S'
 have hD:∀ a cl es,H a=some (.inst cl es)→D a≠x:=fun a cl es e q=>by
  obtain ⟨D0,s40⟩:=S.rep
  obtain ⟨q1,ents,n,q2,_⟩:=s4.rep a _ e
  obtain ⟨p1,ents',n',p2,_⟩:=s40.rep a _ e
  have:=k _ _ p1
  rw [q1] at this
  have hd:D a=D0 a:=by injection this with this;injection this with _ z;exact Option.some.inj z
  have hlt:=lts p2;have hx':=leN hx
  rw [← hd,q] at hlt;lia
 refine ⟨s1,s2,s3,D,⟨fun a ao e=>?_,fun a ao e=>?_,fun a cl es e=>?_,fun a b cl es cl' es' e e'=>?_⟩⟩
 ·by_cases q:a=x
  ·subst q;rw [Zac] at e;obtain rfl:=Option.some.inj e;exact ho D
  ·rw [Zab q] at e;exact s4.rep a ao e
 ·by_cases q:a=x
  ·subst q;exact ⟨abv (by have:=leN hx;lia),hRx⟩
  ·rw [Zab q] at e;exact s4.above a ao e
 ·by_cases q:a=x
  ·subst q;rw [Zac] at e;obtain rfl:=Option.some.inj e;exact absurd rfl (hni cl es)
  ·rw [Zab q] at e
   obtain ⟨y1,y2,y3⟩:=s4.dict a cl es e
   exact ⟨y1,y2,by refine rl (Zab (hD a cl es e)) ?_;exact y3⟩
 ·by_cases q:a=x
  ·subst q;rw [Zac] at e;obtain rfl:=Option.some.inj e;exact absurd rfl (hni cl es)
  ·by_cases q':b=x
   ·subst q';rw [Zac] at e';obtain rfl:=Option.some.inj e';exact absurd rfl (hni cl' es')
   ·rw [Zab q] at e;rw [Zab q'] at e';exact s4.inj a b cl es cl' es' e e'
theorem St1.newRes (S:St1 c R H h) {x:Addr} {r:Res} (hx:h.objs.size≤x) (k:∀ b ob,h.get? b=some ob→h'.get? b=some ob) (hs:h.objs.size≤h'.objs.size)
  (hr:ResAt h' x r):R x=none∧H x=none∧St1 c (rup R x r) H h':=by
 refine ⟨S.freeR hx,S.freeH hx,?_⟩
 have hHx:=S.freeH hx
 have hb:=S.size
 obtain ⟨D0,s40⟩:=S.rep
 have S':=S.keeps k hs
 obtain ⟨s1,s2,s3,D,s4⟩:=S'
 have hD:∀ a cl es,H a=some (.inst cl es)→D a≠x:=fun a cl es e q=>by
  obtain ⟨q1,ents,n,q2,_⟩:=s4.rep a _ e
  obtain ⟨p1,ents',n',p2,_⟩:=s40.rep a _ e
  have:=k _ _ p1
  rw [q1] at this
  have hd:D a=D0 a:=by injection this with this;injection this with _ z;exact Option.some.inj z
  have hlt:=lts p2;have hx':=leN hx
  rw [← hd,q] at hlt;lia
 refine ⟨s1,s2,fun b rr e=>?_,D,⟨s4.rep,fun a ao e=>?_,fun a cl es e=>?_,s4.inj⟩⟩
 ·by_cases q:b=x
  ·subst q;rw [Zak] at e;obtain rfl:=Option.some.inj e;exact ⟨by lia,hr⟩
  ·rw [Zaf q] at e;exact s3 b rr e
 ·obtain ⟨y1,y2⟩:=s4.above a ao e
  exact ⟨y1,by refine rl (Zaf (fun q=>by rw [q,hHx] at e;contradiction)) ?_;exact y2⟩
 ·obtain ⟨y1,y2,y3⟩:=s4.dict a cl es e
  exact ⟨y1,by refine rl (Zaf (hD a cl es e)) ?_;exact y2,y3⟩
theorem St1.setRes (S:St1 c R H h) {x:Addr} {r r':Res} (hx:R x=some r) (hs:Heap.SameBut x h h') (hr:ResAt h' x r'):St1 c (rup R x r') H h':=by
 obtain ⟨s1,s2,s3,D,s4⟩:=S
 have bx:c.base.get? x=none:=by
  cases q:c.base.get? x with
  | none=>rfl
  | some o=>have:=lts q;have:=leN (s3 x r hx).1;lia
 refine ⟨fun b o e=>?_,by refine rl hs.1 ?_;exact s2,fun b rr e=>?_,D,⟨fun a ao e=>?_,fun a ao e=>?_,fun a cl es e=>?_,s4.inj⟩⟩
 ·refine rl (hs.2 b (fun q=>by rw [q,bx] at e;contradiction)) ?_;exact s1 b o e
 ·by_cases q:b=x
  ·subst q;rw [Zak] at e;obtain rfl:=Option.some.inj e;exact ⟨(s3 b r hx).1,hr⟩
  ·rw [Zaf q] at e;exact ⟨(s3 b rr e).1,(s3 b rr e).2.agree fun ob z=>by refine rl (hs.2 b q) ?_;exact z⟩
 ·refine (s4.rep a ao e).agree (fun ob z=>?_) fun cl es eo=>⟨rfl,fun ob z=>?_⟩
  ·refine rl (hs.2 a (fun q=>by have:=(s4.above a ao e).2;rw [q,hx] at this;contradiction)) ?_;exact z
  ·subst eo;refine rl (hs.2 _ (fun q=>by have:=(s4.dict a cl es e).2.1;rw [q,hx] at this;contradiction)) ?_;exact z
 ·obtain ⟨y1,y2⟩:=s4.above a ao e
  exact ⟨y1,by refine rl (Zaf (fun q=>by rw [q,hx] at y2;contradiction)) ?_;exact y2⟩
 ·obtain ⟨y1,y2,y3⟩:=s4.dict a cl es e
  exact ⟨y1,by refine rl (Zaf (fun q=>by rw [q,hx] at y2;contradiction)) ?_;exact y2,y3⟩
theorem St1.setObj (S:St1 c R H h) {x:Addr} {o o':AObj} (hx:H x=some o) (hni':∀ cl es,o'≠.inst cl es) (hs:Heap.SameBut x h h')
  (ho:∀ D,ORep c h' D x o') (hne:o.isX=false:=by rfl):St1 c R (up H x o') h':=by
 obtain ⟨s1,s2,s3,D,s4⟩:=S
 have bx:c.base.get? x=none:=Zmy ((s4.above x _ hx).1.2 hne)
 refine ⟨fun b o e=>?_,by refine rl hs.1 ?_;exact s2,fun b rr e=>?_,D,⟨fun a ao e=>?_,fun a ao e=>?_,fun a cl es e=>?_,fun a b cl es cl' es' e e'=>?_⟩⟩
 ·refine rl (hs.2 b (fun q=>by rw [q,bx] at e;contradiction)) ?_;exact s1 b o e
 ·exact ⟨(s3 b rr e).1,(s3 b rr e).2.agree fun ob z=>by refine rl (hs.2 b (fun q=>by have:=(s4.above x _ hx).2;rw [q,this] at e;contradiction)) ?_;exact z⟩
 ·by_cases q:a=x
  ·subst q;rw [Zac] at e;obtain rfl:=Option.some.inj e;exact ho D
  ·rw [Zab q] at e
   refine (s4.rep a ao e).agree (fun ob z=>by refine rl (hs.2 a q) ?_;exact z) fun cl es eo=>⟨rfl,fun ob z=>?_⟩
   subst eo;refine rl (hs.2 _ (fun q=>by have:=(s4.dict a cl es e).2.2;rw [q,hx] at this;contradiction)) ?_;exact z
 ·by_cases q:a=x
  ·subst q;exact ⟨abv ((s4.above a _ hx).1.2 hne),(s4.above a _ hx).2⟩
  ·rw [Zab q] at e;exact s4.above a ao e
 ·by_cases q:a=x
  ·subst q;rw [Zac] at e;obtain rfl:=Option.some.inj e;exact absurd rfl (hni' cl es)
  ·rw [Zab q] at e
   obtain ⟨y1,y2,y3⟩:=s4.dict a cl es e
   exact ⟨y1,y2,by refine rl (Zab (fun q=>by rw [q,hx] at y3;contradiction)) ?_;exact y3⟩
 ·by_cases q:a=x
  ·subst q;rw [Zac] at e;obtain rfl:=Option.some.inj e;exact absurd rfl (hni' cl es)
  ·by_cases q':b=x
   ·subst q';rw [Zac] at e';obtain rfl:=Option.some.inj e';exact absurd rfl (hni' cl' es')
   ·rw [Zab q] at e;rw [Zab q'] at e';exact s4.inj a b cl es cl' es' e e'
theorem St1.setAttr (S:St1 c R H h) {x:Addr} {cl:String} {es:List (String×AV)} (hx:H x=some (.inst cl es)) :
  ∃ d ents n,h.get? x=some (instObj (c.ca cl) d)∧h.get? d=some (dictOf ents n)∧Zcf es ents∧(es.map (·.1)).Nodup ∧
   ∀ h' ents' n' es',Heap.SameBut d h h'→h'.get? d=some (dictOf ents' n')→Zcf es' ents'→(es'.map (·.1)).Nodup→St1 c R (up H x (.inst cl es')) h':=by
 obtain ⟨s1,s2,s3,D,s4⟩:=S
 obtain ⟨e1,ents,n,e2,e3,e4⟩:=s4.rep x _ hx
 refine ⟨D x,ents,n,e1,e2,e3,e4,fun h' ents' n' es' hs hd ha hnd=>?_⟩
 obtain ⟨d1,d2,d3⟩:=s4.dict x cl es hx
 have bx:c.base.get? (D x)=none:=by
  cases q:c.base.get? (D x) with
  | none=>rfl
  | some o=>have:=lts q;have:=leN d1;lia
 refine ⟨fun b o e=>?_,by refine rl hs.1 ?_;exact s2,fun b rr e=>?_,D,⟨fun a ao e=>?_,fun a ao e=>?_,fun a cl' es'' e=>?_,fun a b cla esa clb esb e e'=>?_⟩⟩
 ·refine rl (hs.2 b (fun q=>by rw [q,bx] at e;contradiction)) ?_;exact s1 b o e
 ·exact ⟨(s3 b rr e).1,(s3 b rr e).2.agree fun ob z=>by refine rl (hs.2 b (fun q=>by rw [q,d2] at e;contradiction)) ?_;exact z⟩
 ·by_cases q:a=x
  ·subst q;rw [Zac] at e;obtain rfl:=Option.some.inj e
   exact ⟨by refine rl (hs.2 a (fun q=>by rw [← q,hx] at d3;contradiction)) ?_;exact e1,ents',n',hd,ha,hnd⟩
  ·rw [Zab q] at e
   refine (s4.rep a ao e).agree (fun ob z=>by refine rl (hs.2 a (fun q=>by rw [q,d3] at e;contradiction)) ?_;exact z) fun cl' es'' eo=>⟨rfl,fun ob z=>?_⟩
   subst eo;refine rl (hs.2 _ (fun q'=>q (s4.inj a x _ _ _ _ e hx q'))) ?_;exact z
 ·by_cases q:a=x
  ·subst q;exact ⟨abv ((s4.above a _ hx).1.2 rfl),(s4.above a _ hx).2⟩
  ·rw [Zab q] at e;exact s4.above a ao e
 ·by_cases q:a=x
  ·subst q;exact ⟨d1,d2,by refine rl (Zab (fun q=>by rw [q,hx] at d3;contradiction)) ?_;exact d3⟩
  ·rw [Zab q] at e
   obtain ⟨y1,y2,y3⟩:=s4.dict a cl' es'' e
   exact ⟨y1,y2,by refine rl (Zab (fun q=>by rw [q,hx] at y3;contradiction)) ?_;exact y3⟩
 ·have t:∀ z cz ez,up H x (.inst cl es') z=some (.inst cz ez)→∃ c0 e0,H z=some (.inst c0 e0):=fun z cz ez ez'=>by
   by_cases q:z=x
   ·subst q;exact ⟨_,_,hx⟩
   ·rw [Zab q] at ez';exact ⟨_,_,ez'⟩
  obtain ⟨_,_,t1⟩:=t a _ _ e
  obtain ⟨_,_,t2⟩:=t b _ _ e'
  exact s4.inj a b _ _ _ _ t1 t2
theorem St1.newInst (S:St1 c R H h) {cl:String}:H (h.objs.size+1)=none∧St1 c R (up H (h.objs.size+1) (.inst cl [])) ((h.push emptyDict).push (instObj (c.ca cl) h.objs.size)):=by
 refine ⟨S.freeH (by lia),?_⟩
 have hfd:=S.freeH (x:=h.objs.size) (by lia)
 have hfi:=S.freeH (x:=h.objs.size+1) (by lia)
 have hrd:=S.freeR (x:=h.objs.size) (by lia)
 have hri:=S.freeR (x:=h.objs.size+1) (by lia)
 have k:∀ b o,h.get? b=some o→((h.push emptyDict).push (instObj (c.ca cl) h.objs.size)).get? b=some o:=fun b o e=>Heap.get?_push_of_some _ (Heap.get?_push_of_some _ e)
 obtain ⟨s1,s2,s3,D,s4⟩:=S
 have hDlt:∀ a cl es,H a=some (.inst cl es)→@LT.lt Nat _ (D a) h.objs.size:=fun a cl es e=>by
  obtain ⟨_,_,_,q,_⟩:=s4.rep a _ e;exact lts q
 refine ⟨fun b o e=>k b o (s1 b o e),by refine rl (Heap.size_push ..) (rl (Heap.size_push ..) ?_);lia,fun b r e=>⟨(s3 b r e).1,(s3 b r e).2.agree fun _=>k _ _⟩,
  fun a=>if a=h.objs.size+1 then h.objs.size else D a,⟨fun a ao e=>?_,fun a ao e=>?_,fun a cl' es e=>?_,fun a b cla esa clb esb e e' hq=>?_⟩⟩
 ·by_cases q:a=h.objs.size+1
  ·subst q;rw [Zac] at e;obtain rfl:=Option.some.inj e
   refine ⟨?_,[],0,?_,trivial,by simp⟩
   ·simp only [if_true]
    have:=Heap.get?_push_size (h.push emptyDict) (o:=instObj (c.ca cl) h.objs.size) rfl
    rwa [Heap.size_push] at this
   ·simp only [if_true]
    exact Heap.get?_push_of_some _ (Heap.get?_push_size h rfl)
  ·rw [Zab q] at e
   exact (s4.rep a ao e).agree (fun _=>k _ _) fun cl' es eo=>⟨by simp [q],fun _=>k _ _⟩
 ·by_cases q:a=h.objs.size+1
  ·subst q;exact ⟨abv (by lia),hri⟩
  ·rw [Zab q] at e;exact s4.above a ao e
 ·by_cases q:a=h.objs.size+1
  ·subst q
   simp only [if_true]
   exact ⟨s2,hrd,by refine rl (Zab (Nat.ne_of_lt (Nat.lt_succ_self _))) ?_;exact hfd⟩
  ·rw [Zab q] at e
   simp only [if_neg q]
   obtain ⟨y1,y2,y3⟩:=s4.dict a cl' es e
   have:=hDlt a cl' es e
   exact ⟨y1,y2,by refine rl (Zab (Nat.ne_of_lt (Nat.lt_succ_of_lt this))) ?_;exact y3⟩
 ·by_cases q:a=h.objs.size+1
  ·by_cases q':b=h.objs.size+1
   ·exact rl q (rl q' rfl)
   ·rw [Zab q'] at e'
    simp only [q,q',if_true,if_false] at hq
    exact absurd hq (Nat.ne_of_gt (hDlt b _ _ e'))
  ·rw [Zab q] at e
   by_cases q':b=h.objs.size+1
   ·simp only [q,q',if_true,if_false] at hq
    exact absurd hq (Nat.ne_of_lt (hDlt a _ _ e))
   ·rw [Zab q'] at e'
    simp only [q,q',if_false] at hq
    exact s4.inj a b _ _ _ _ e e' hq
end
theorem Sm.refl (s:Shared):Sm s s:=⟨s.heap,s.toks,rfl⟩
theorem Sm.mk' (s:Shared) (h:Heap) (tk:Nat):Sm s { s with heap:=h,toks:=tk }:=⟨h,tk,rfl⟩
theorem Sm.trans {s s' s'':Shared} (x:Sm s s') (y:Sm s' s''):Sm s s'':=by
 obtain ⟨h,t,rfl⟩:=x
 obtain ⟨h',t',rfl⟩:=y
 exact ⟨h',t',rfl⟩
noncomputable def KB (P:Role→Prop) (o o':Addr→Option Role) (H H':Zaa):Prop:=∀ a r x,P r→o a=some r→H a=some x→x.isB=false→o' a=some r∧H' a=some x
section
variable {P:Role→Prop} {o o':Addr→Option Role} {H H':Zaa} (k:KB P o o' H H') (hd:P .data)
include k hd
theorem pairsAV.congr:∀ {ts:List Addr} {l:List (Str×Int)},pairsAV o H ts l→pairsAV o' H' ts l
 | [],[],_=>trivial
 | t::_,_::_,⟨h1,h2,h3⟩=>⟨(k t _ _ hd h1 h2 rfl).1,(k t _ _ hd h1 h2 rfl).2,h3.congr⟩
 | [],_::_,h=>h.elim
 | _::_,[],h=>h.elim
theorem PairsAt.congr {p:Addr} {l:List (Str×Int)} (h:PairsAt o H p l):PairsAt o' H' p l:=by
 obtain ⟨h1,ts,h2,h3⟩:=h
 exact ⟨(k p _ _ hd h1 h2 rfl).1,ts,(k p _ _ hd h1 h2 rfl).2,h3.congr k hd⟩
theorem IsPact.congr {i:Nat} (hp:P (.pact i)∧P (.inside i)) {a:Addr} {q:Pc} (h:IsPact o H i a q):IsPact o' H' i a q:=by
 obtain ⟨h1,pa,ga,ne,ins,ep,h2,h3,h4,h5,h6,h7,h8⟩:=h
 exact ⟨(k a _ _ hp.1 h1 h2 rfl).1,pa,ga,ne,ins,ep,(k a _ _ hp.1 h1 h2 rfl).2,h3.congr k hd,h4.congr k hd,(k ne _ _ hd h5 h6 rfl).1,(k ne _ _ hd h5 h6 rfl).2,(k ins _ _ hp.2 h7 h8 rfl).1,(k ins _ _ hp.2 h7 h8 rfl).2⟩
theorem pactsAt.congr:∀ {i:Nat} {as:List Addr} {qs:List Pc},(∀ j,i≤j→P (.pact j)∧P (.inside j))→pactsAt o H i as qs→pactsAt o' H' i as qs
 | _,[],[],_,_=>trivial
 | i,_::_,_::_,hp,⟨h1,h2⟩=>⟨h1.congr k hd (hp i (Nat.le_refl _)),h2.congr fun j hj=>hp j (Nat.le_of_succ_le hj)⟩
 | _,[],_::_,_,h=>h.elim
 | _,_::_,[],_,h=>h.elim
end
theorem IsBook.congr {o o':Addr→Option Role} {H H':Zaa} (k:KB (fun _=>True) o o' H H') {b f s p:Addr} {as:List Addr} {B:Bk} (h:IsBook o H b f s p as B):IsBook o' H' b f s p as B:=by
 obtain ⟨h1,h2,h3,h4,h5,⟨e1,h6⟩,⟨e2,h7⟩,⟨e3,h8⟩,h9⟩:=h
 exact ⟨(k b _ _ trivial h1 h5 rfl).1,(k f _ _ trivial h2 h6 rfl).1,(k s _ _ trivial h3 h7 rfl).1,(k p _ _ trivial h4 h8 rfl).1,(k b _ _ trivial h1 h5 rfl).2,⟨e1,(k f _ _ trivial h2 h6 rfl).2⟩,⟨e2,(k s _ _ trivial h3 h7 rfl).2⟩,⟨e3,(k p _ _ trivial h4 h8 rfl).2⟩,h9.congr k trivial fun _ _=>⟨trivial,trivial⟩⟩
set_option tactic.hygienic true in
theorem ownB_some {o:Addr→Option (Addr×Role)} {b a:Addr} {r:Role}:ownB o b a=some r↔o a=some (b,r):=by
 unfold ownB
 split
 ·rename_i c r' e
  refine rl e ?_
  by_cases q:c=b<;>simp [q]
 ·rename_i e;refine rl e ?_;simp
section
variable {H H₁:Zaa}
theorem Real.get (r:Real H H₁) {a:Addr} {x:AObj} (e:H a=some x) (hb:x.isB=false):H₁ a=some x:=by
 obtain ⟨_,o,h⟩:=r
 rcases h a x e with ⟨_,h,_⟩ | ⟨B,_,_,_,_,rfl,_⟩
 ·exact h
 ·contradiction
theorem Real.none (r:Real H H₁) {a:Addr} (e:H₁ a=Option.none):H a=Option.none:=by
 obtain ⟨_,o,h⟩:=r
 cases q:H a with
 | none=>rfl
 | some x =>
  rcases h a x q with ⟨_,h,_⟩ | ⟨B,f,s,p,as,rfl,h⟩
  ·rw [e] at h;contradiction
  ·have:=h.hb;rw [e] at this;contradiction
theorem Real.put (r:Real H H₁) {x:Addr} {y:AObj} (hy:y.isB=false) (hx:H₁ x=Option.none∨∃ z,H x=some z∧z.isB=false):Real (up H x y) (up H₁ x y):=by
 obtain ⟨hr,o,h⟩:=r
 have hox:(∃ z,H x=some z∧z.isB=false)→o x=Option.none:=by
  rintro ⟨z,e,hz⟩
  rcases h x z e with ⟨_,_,q⟩ | ⟨B,_,_,_,_,rfl,_⟩
  ·exact q
  ·contradiction
 refine ⟨fun a z e=>?_,fun a=>if a=x then Option.none else o a,fun a z e=>?_⟩
 ·by_cases q:a=x
  ·subst q;rw [Zac] at e;obtain rfl:=Option.some.inj e;exact hy
  ·rw [Zab q] at e;exact hr a z e
 by_cases q:a=x
 ·subst q;rw [Zac] at e;obtain rfl:=Option.some.inj e
  exact .inl ⟨hy,Zac,if_pos rfl⟩
 ·rw [Zab q] at e
  rcases h a z e with ⟨h1,h2,h3⟩ | ⟨B,f,s,p,as,rfl,h1⟩
  ·exact .inl ⟨h1,by refine rl (Zab q) ?_;exact h2,(if_neg q).trans h3⟩
  ·refine .inr ⟨B,f,s,p,as,rfl,h1.congr fun c r' z _ hr hc _=>?_⟩
   have hr:=ownB_some.mp hr
   have hcx:c≠x:=by
    rintro rfl
    rcases hx with hx | hx
    ·rw [hx] at hc;contradiction
    ·rw [hox hx] at hr;contradiction
   exact ⟨ownB_some.mpr ((if_neg hcx).trans hr),by refine rl (Zab hcx) ?_;exact hc⟩
theorem Real.less {H':Zaa} (r:Real H H₁) (k:∀ a x,H' a=some x→H a=some x):Real H' H₁:=by
 obtain ⟨hr,o,h⟩:=r
 exact ⟨hr,o,fun a x e=>h a x (k a x e)⟩
theorem Real.raw (hr:∀ a x,H a=some x→x.isB=false):Real H H:=⟨hr,fun _=>Option.none,fun a x e=>.inl ⟨hr a x e,e,rfl⟩⟩
theorem Real.unpack (r:Real H H₁) {b:Addr} {B:Bk} (hb:H b=some (.book B)):∃ H₂ o f s p as,Real H₂ H₁∧IsBook o H₂ b f s p as B∧∀ a x,H a=some x→a≠b→H₂ a=some x∧o a=Option.none:=by
 obtain ⟨hr,o,h⟩:=r
 rcases h b _ hb with ⟨h1,_⟩ | ⟨B',f,s,p,as,e,h1⟩
 ·contradiction
 cases e
 have key:∀ a x,H a=some x→a≠b→ownB o b a=Option.none:=fun a x e q=>by
  cases z:ownB o b a with
  | none=>rfl
  | some r =>
   have z:=ownB_some.mp z
   rcases h a x e with ⟨_,_,k⟩ | ⟨B',f',s',p',as',rfl,k⟩
   ·rw [k] at z;contradiction
   ·have:=ownB_some.mp k.ob;rw [this] at z;cases z;exact absurd rfl q
 have hbs:=h1.ob
 refine ⟨fun a=>match ownB o b a with | some _=>H₁ a | Option.none=>H a,ownB o b,f,s,p,as,⟨hr,fun a=>match ownB o b a with | some _=>Option.none | Option.none=>o a,fun a x e=>?_⟩,h1.congr fun a r x _ hr hx _=>⟨hr,by simp only [hr];exact hx⟩,fun a x e q=>?_⟩
 ·cases z:ownB o b a with
  | some r=>simp only [z] at e;exact .inl ⟨hr a x e,e,by simp only [z]⟩
  | none =>
   simp only [z] at e
   rcases h a x e with ⟨k1,k2,k3⟩ | ⟨B',f',s',p',as',rfl,k⟩
   ·exact .inl ⟨k1,k2,by simp only [z];exact k3⟩
   ·refine .inr ⟨B',f',s',p',as',rfl,k.congr fun c r x _ hc hx _=>⟨?_,hx⟩⟩
    have hc:=ownB_some.mp hc
    have hab:a≠b:=by rintro rfl;rw [hbs] at z;contradiction
    have hn:ownB o b c=Option.none:=by
     cases w:ownB o b c with
     | none=>rfl
     | some r'=>have w:=ownB_some.mp w;rw [hc] at w;cases w;exact absurd rfl hab
    exact ownB_some.mpr (by simp only [hn];exact hc)
 ·have:=key a x e q
  exact ⟨by simp only [this];exact e,this⟩
theorem Real.pack {H₂:Zaa} {o:Addr→Option Role} {b f s p:Addr} {as:List Addr} {B:Bk} (r:Real H₂ H₁) (hb:IsBook o H₂ b f s p as B)
  (k:∀ a x,H a=some x→(a=b∧x = .book B)∨(a≠b∧o a=Option.none∧H₂ a=some x)):Real H H₁:=by
 obtain ⟨hr,oA,h⟩:=r
 refine ⟨hr,fun a=>match oA a with | some z=>some z | Option.none=>(o a).map fun r=>(b,r),fun a x e=>?_⟩
 rcases k a x e with ⟨rfl,rfl⟩ | ⟨h1,h2,h3⟩
 ·refine .inr ⟨B,f,s,p,as,rfl,hb.congr fun c r x _ hc hx hn=>?_⟩
  rcases h c x hx with ⟨_,k1,k2⟩ | ⟨B',_,_,_,_,rfl,_⟩
  ·exact ⟨ownB_some.mpr (by simp only [k2,hc];rfl),k1⟩
  ·contradiction
 ·rcases h a x h3 with ⟨k1,k2,k3⟩ | ⟨B',f',s',p',as',rfl,k1⟩
  ·exact .inl ⟨k1,k2,by simp only [k3,h2];rfl⟩
  ·refine .inr ⟨B',f',s',p',as',rfl,k1.congr fun c r x _ hc hx _=>⟨?_,hx⟩⟩
   have hc:=ownB_some.mp hc
   exact ownB_some.mpr (by simp only [hc])
end
section
variable {c:Cx} {R R':RR} {H:Zaa} {h h':Heap}
theorem St.stays (S:St c R H h):c.base.StaysIn h:=let ⟨_,s,_⟩:=S;s.stays
theorem St.size (S:St c R H h):c.base.objs.size≤h.objs.size:=let ⟨_,s,_⟩:=S;s.size
theorem St.res (S:St c R H h):∀ b r,R b=some r→c.base.objs.size≤b∧ResAt h b r:=let ⟨_,s,_⟩:=S;s.res
theorem St.orep (S:St c R H h) {a:Addr} {x:AObj} (e:H a=some x) (hb:x.isB=false:=by rfl):(∃ D,ORep c h D a x)∧Abv c a x∧R a=none:=by
 obtain ⟨H₁,s,r⟩:=S
 obtain ⟨D,k⟩:=s.rep
 exact ⟨⟨D,k.rep a x (r.get e hb)⟩,k.above a x (r.get e hb)⟩
theorem St.there (S:St c R H h) {a:Addr} {x:AObj} (e:H a=some x):∃ ob,h.get? a=some ob:=by
 obtain ⟨H₁,s,r⟩:=S
 obtain ⟨D,k⟩:=s.rep
 cases q:H₁ a with
 | none=>rw [r.none q] at e;cases e
 | some y=>exact (k.rep a y q).there
theorem St.weaken (S:St c R' H h) (k:∀ b r,R b=some r→R' b=some r):St c R H h:=let ⟨H₁,s,r⟩:=S;⟨H₁,s.weaken k,r⟩
theorem St.keeps (S:St c R H h) (k:∀ b o,h.get? b=some o→h'.get? b=some o) (hs:h.objs.size≤h'.objs.size):St c R H h':=let ⟨H₁,s,r⟩:=S;⟨H₁,s.keeps k hs,r⟩
theorem St.push (S:St c R H h) (o:Obj):St c R H (h.push o):=let ⟨H₁,s,r⟩:=S;⟨H₁,s.push o,r⟩
theorem St.freeR (S:St c R H h) {x:Addr} (hx:h.objs.size≤x):R x=none:=let ⟨_,s,_⟩:=S;s.freeR hx
theorem St.newObj (S:St c R H h) {x:Addr} {o:AObj} (hx:h.objs.size≤x) (k:∀ b ob,h.get? b=some ob→h'.get? b=some ob) (hs:h.objs.size≤h'.objs.size)
  (hni:∀ cl es,o≠.inst cl es) (ho:∀ D,ORep c h' D x o) (hb:o.isB=false:=by rfl):H x=none∧St c R (up H x o) h':=by
 obtain ⟨H₁,s,r⟩:=S
 obtain ⟨e,s'⟩:=s.newObj hx k hs hni ho
 exact ⟨r.none e,_,s',r.put hb (.inl e)⟩
theorem St.newRes (S:St c R H h) {x:Addr} {r:Res} (hx:h.objs.size≤x) (k:∀ b ob,h.get? b=some ob→h'.get? b=some ob) (hs:h.objs.size≤h'.objs.size)
  (hr:ResAt h' x r):R x=none∧H x=none∧St c (rup R x r) H h':=by
 obtain ⟨H₁,s,rl⟩:=S
 obtain ⟨e,e',s'⟩:=s.newRes hx k hs hr
 exact ⟨e,rl.none e',_,s',rl⟩
theorem St.setRes (S:St c R H h) {x:Addr} {r r':Res} (hx:R x=some r) (hs:Heap.SameBut x h h') (hr:ResAt h' x r'):St c (rup R x r') H h':=let ⟨H₁,s,rl⟩:=S;⟨H₁,s.setRes hx hs hr,rl⟩
theorem St.setObj (S:St c R H h) {x:Addr} {o o':AObj} (hx:H x=some o) (hni':∀ cl es,o'≠.inst cl es) (hs:Heap.SameBut x h h')
  (ho:∀ D,ORep c h' D x o') (hne:o.isX=false:=by rfl) (hb:o.isB=false:=by rfl) (hb':o'.isB=false:=by rfl):St c R (up H x o') h':=by
 obtain ⟨H₁,s,r⟩:=S
 exact ⟨_,s.setObj (r.get hx hb) hni' hs ho hne,r.put hb' (.inr ⟨o,hx,hb⟩)⟩
theorem St.setAttr (S:St c R H h) {x:Addr} {cl:String} {es:List (String×AV)} (hx:H x=some (.inst cl es)) :
  ∃ d ents n,h.get? x=some (instObj (c.ca cl) d)∧h.get? d=some (dictOf ents n)∧Zcf es ents∧(es.map (·.1)).Nodup ∧
   ∀ h' ents' n' es',Heap.SameBut d h h'→h'.get? d=some (dictOf ents' n')→Zcf es' ents'→(es'.map (·.1)).Nodup→St c R (up H x (.inst cl es')) h':=by
 obtain ⟨H₁,s,r⟩:=S
 obtain ⟨d,ents,n,a1,a2,a3,a4,a5⟩:=s.setAttr (r.get hx rfl)
 exact ⟨d,ents,n,a1,a2,a3,a4,fun h' e' n' es' q1 q2 q3 q4=>⟨_,a5 h' e' n' es' q1 q2 q3 q4,r.put rfl (.inr ⟨_,hx,rfl⟩)⟩⟩
theorem St.newInst (S:St c R H h) {cl:String}:H (h.objs.size+1)=none∧St c R (up H (h.objs.size+1) (.inst cl [])) ((h.push emptyDict).push (instObj (c.ca cl) h.objs.size)):=by
 obtain ⟨H₁,s,r⟩:=S
 obtain ⟨e,s'⟩:=s.newInst (cl:=cl)
 exact ⟨r.none e,_,s',r.put rfl (.inl e)⟩
theorem St.bookAttr (S:St c R H h) {x:Addr} {B:Bk} (hx:H x=some (.book B)):∃ f s p,∃ d ents n,h.get? x=some (instObj (c.ca "Book") d)∧h.get? d=some (dictOf ents n)∧Zcf [("day",.int B.day),("free",.ref f),("aside",.ref s),("pacts",.ref p)] ents:=by
 obtain ⟨H₁,s,r⟩:=S
 obtain ⟨_,o,k⟩:=r
 rcases k x _ hx with ⟨k,_⟩ | ⟨B',f,s',p,as,e,k⟩
 ·contradiction
 cases e
 obtain ⟨d,ents,n,a1,a2,a3,_⟩:=s.setAttr k.hb
 exact ⟨f,s',p,d,ents,n,a1,a2,a3⟩
end
end Mine
end
section
namespace Mine
structure Cx.Ok (c:Cx) (mg mb:Str→Option Value):Prop where
 kin:c.K.In c.base
 g:c.base.Ns mainGlobals mg
 b:c.base.Ns builtinsNs mb
 nolimit:c.base.NoLimit
 builtins:∀ x:Str,x≠"__name__"→mb x=bootBuiltins x
 seer:c.base.NoSeer
 tree:c.prog.given.tree=none
 top:∃ p loose,TopRead p loose mg mb c.base
structure Ev (g:Gx) (A:Around) (R:RR) (e:Env) (l:List Env):Prop where
 aok:AOk 4 g.n g.md A (e::l)
 stk:Stk R (e::l)
inductive TQi (c:Cx) (R:RR) (s₀:Shared) (Q:AV→Zaa→Prop) (v:Value) (s':Shared):Prop
 | mk (av:AV) (H':Zaa) (hv:VR av v) (S:St c R H' s'.heap) (m:Sm s₀ s') (q:Q av H'):TQi c R s₀ Q v s'
noncomputable def TQ (g:Gx) (R:RR) (s₀:Shared) (Q:AV→Zaa→Prop) (v:Value) (s':Shared):Prop:=TQi g.c R s₀ Q v s'
inductive TBi (c:Cx) (R:RR) (s₀:Shared) (Q:Bool→Zaa→Prop) (b:Bool) (s':Shared):Prop
 | mk (H':Zaa) (S:St c R H' s'.heap) (m:Sm s₀ s') (q:Q b H'):TBi c R s₀ Q b s'
noncomputable def TB (g:Gx) (R:RR) (s₀:Shared) (Q:Bool→Zaa→Prop) (b:Bool) (s':Shared):Prop:=TBi g.c R s₀ Q b s'
inductive TEi (c:Cx) (R:RR) (s₀:Shared) (E:String→Zaa→Prop) (e:Value) (s':Shared):Prop
 | mk (a:Addr) (cl:String) (H':Zaa) (h:e = .ref a) (X:ExcSt c R H' a cl .none s'.heap) (m:Sm s₀ s') (q:E cl H'):TEi c R s₀ E e s'
noncomputable def TE (g:Gx) (R:RR) (s₀:Shared) (E:String→Zaa→Prop) (e:Value) (s':Shared):Prop:=TEi g.c R s₀ E e s'
theorem Sm.step {s₀ s:Shared} (x:Sm s₀ s) (h:Heap) (tk:Nat):Sm s₀ { s with heap:=h,toks:=tk }:=x.trans ⟨h,tk,rfl⟩
theorem Sm.toks {s₀ s:Shared} (x:Sm s₀ s) (tk:Nat):Sm s₀ { s with toks:=tk }:=x.trans ⟨s.heap,tk,rfl⟩
theorem Sm.heap {s₀ s:Shared} (x:Sm s₀ s) (h:Heap):Sm s₀ { s with heap:=h }:=x.trans ⟨h,s.toks,rfl⟩
section
variable {g:Gx} {A:Around} {R:RR} {s₀ s:Shared} {H:Zaa} {E:Value→Shared→Prop} {Q:AV→Zaa→Prop}
theorem TQ.pure {a:AV} {v:Value} (hv:VR a v) (S:St g.c R H s.heap) (m:Sm s₀ s) (q:Q a H):TQ g R s₀ Q v s:=⟨a,H,hv,S,m,q⟩
theorem TQ.toks {a:AV} {v:Value} {tk:Nat} (hv:VR a v) (S:St g.c R H s.heap) (m:Sm s₀ s) (q:Q a H):TQ g R s₀ Q v { s with toks:=tk }:=⟨a,H,hv,S,m.toks tk,q⟩
theorem Zbc {a:Addr} {xs:List AV} (S:St g.c R H s.heap) (e:H a=some (.list xs)):∃ vs n,s.heap.get? a=some (listOf (vs:List Value).toArray n)∧VRs xs vs∧s.heap.IsList a vs.toArray:=by
 obtain ⟨⟨D,vs,n,h1,h2⟩,_⟩:=S.orep e
 exact ⟨vs,n,h1,h2,_,h1,rfl,n,rfl⟩
theorem Zc0 {a:Addr} {xs:List AV} (S:St g.c R H s.heap) (e:H a=some (.tuple xs)):∃ vs n,s.heap.get? a=some { cls:=.type "tuple",data:=.seq (vs:List Value).toArray n }∧VRs xs vs∧IsTup s.heap a vs.toArray:=by
 obtain ⟨⟨D,vs,n,h1,h2⟩,_⟩:=S.orep e
 exact ⟨vs,n,h1,h2,_,h1,rfl,n,rfl⟩
theorem Zbk {a:Addr} {ep:Nat} {es:List (Str×AV)} (S:St g.c R H s.heap) (e:H a=some (.dict ep es)):∃ kvs,s.heap.DictAt (strKind g.c.prog g.c.w) a kvs ep∧DRs es kvs:=by
 obtain ⟨⟨D,r⟩,_⟩:=S.orep e
 exact r
theorem Ztw {a:Addr} {o:AObj} (S:St g.c R H s.heap) (e:H a=some o) (hne:o.isX=false:=by rfl) (hb:o.isB=false:=by rfl):g.c.base.objs.size≤a:=(S.orep e hb).2.1.2 hne
theorem DRs.length {es kvs} (h:DRs es kvs):kvs.length=es.length:=by
 induction h with
 | nil=>rfl
 | cons _ _ _ ih=>simp [ih]
set_option tactic.hygienic true in
theorem DRs.look {es kvs} (h:DRs es kvs) (k:Str):OVR (Zbu es k) (valueAt kvs k):=by
 induction h with
 | nil=>exact .none
 | cons hk hv _ ih =>
  rename_i k' a v as vs _
  dsimp only [Zbu,valueAt,List.find?_cons] at ih ⊢
  by_cases q:k'=k
  ·simp [q];exact .some hv
  ·simp [q];exact ih
theorem DRs.vals {es kvs} (h:DRs es kvs):VRs (es.map (·.2)) (kvs.map (·.2)):=by
 induction h with
 | nil=>exact .nil
 | cons _ hv _ ih=>exact .cons hv ih
theorem OVR.isSome {a v} (h:OVR a v):v.isSome=a.isSome:=by cases h<;>rfl
theorem Ze0 {xs:List AV} {vs:List Value} {n:Nat} {h':Heap} {x:Addr} {tk:Nat} (S:St g.c R H s.heap) (m:Sm s₀ s) (hv:VRs xs vs) (hx:s.heap.objs.size≤x)
  (k:∀ b ob,s.heap.get? b=some ob→h'.get? b=some ob) (hs:s.heap.objs.size≤h'.objs.size) (ho:h'.get? x=some (listOf vs.toArray n))
  (q:∀ z,H z=none→Q (.ref z) (up H z (.list xs))):TQ g R s₀ Q (.ref x) { s with heap:=h',toks:=tk }:=by
 obtain ⟨e,S'⟩:=S.newObj (o:=.list xs) hx k hs (by intro _ _ z;contradiction) (fun D=>⟨vs,n,ho,hv⟩)
 exact ⟨.ref x,_,.ref x,S',m.step _ _,q x e⟩
theorem Zi5 {v:Value} {a:AV} {Qb:Bool→Zaa→Prop} (hv:VR a v) (S:St g.c R H s.heap) (m:Sm s₀ s) (q:Zbm a H (fun b=>Qb b H)) :
  wpAny (model g.c.prog g.c.w) A (truthy v) (TB g R s₀ Qb) E s:=by
 cases hv with
 | none=>exact truthy_none ⟨H,S,m,q⟩
 | bool b=>exact wpAny_truthy_bool ⟨H,S,m,q⟩
 | int i t=>exact truthy_int ⟨H,S,m,q⟩
 | str x t hx =>
  refine P.truthy_str (by have:=q.1;omega) ⟨H,S,m.toks _,?_⟩
  have:((x.length:Int) != 0)=(x.length != 0):=by
   cases x.length with
   | zero=>rfl
   | succ n=>simp;omega
  refine rl this ?_;exact q.2
 | ref p =>
  obtain ⟨o,e⟩:∃ o,H p=o:=⟨_,rfl⟩
  rw [Zw1,e] at q
  cases o with
  | none=>exact q.elim
  | some o =>
  cases o with
  | list xs =>
   obtain ⟨vs,n,h1,h2,h3⟩:=Zbc S e
   have hl:=h2.length
   refine wpAny_truthy_list h3 (by simp only [List.size_toArray];have:=q.1;omega) ⟨H,S,m.toks _,?_⟩
   have:(vs.toArray.isEmpty)=xs.isEmpty:=by cases h2<;>rfl
   refine rl this ?_;exact q.2
  | tuple xs =>
   obtain ⟨vs,n,h1,h2,h3⟩:=Zc0 S e
   have hl:=h2.length
   refine truthy_tuple h3 (by simp only [List.size_toArray];have:=q.1;omega) ⟨H,S,m.toks _,?_⟩
   have:(vs.toArray.isEmpty)=xs.isEmpty:=by cases h2<;>rfl
   refine rl this ?_;exact q.2
  | _=>exact q.elim
theorem Zjz {x y:Str} (hx:PyData.strOk x=true) (hy:PyData.strOk y=true):PyData.strOk (x++y)=true:=by
 show (x.cps++y.cps).all _=true
 refine rl Array.all_append ?_
 exact Bool.and_eq_true_iff.mpr ⟨hx,hy⟩
theorem Zg6 {x:Str} (hx:PyData.strOk x=true) {ch:Nat} (hc:ch∈x.cps):ch<0x110000:=by
 have:=(Array.all_eq_true_iff_forall_mem.mp hx) ch hc
 simpa using this
theorem Zi0 {l:List Nat} (h:∀ ch∈l,ch<0x110000):PyData.strOk ⟨l.toArray⟩=true:=by
 show l.toArray.all _=true
 rw [Array.all_eq_true_iff_forall_mem]
 intro ch hc
 simpa using h ch (by simpa using hc)
theorem Zcz {as:List AV} {vs:List Value} {k:AV→Prop} {m:List Value→Prop} (hv:VRs as vs) (q:onV1 as k) (f:∀ a v,VR a v→k a→m [v]):m vs:=by
 cases hv with
 | nil=>exact q.elim
 | cons h1 hr=>cases hr with
  | nil=>exact f _ _ h1 q
  | cons=>exact q.elim
theorem Zri {o:AV} {u:Value} {k:Addr→List AV→Prop} {m:Value→Prop} (ho:VR o u) (q:atL o H k) (f:∀ p xs,H p=some (.list xs)→k p xs→m (.ref p)):m u:=by
 cases ho with
 | ref p =>
  obtain ⟨o,e⟩:∃ o,H p=o:=⟨_,rfl⟩
  dsimp only [atL] at q
  rw [e] at q
  cases o with
  | none=>exact q.elim
  | some o=>cases o with
   | list xs=>exact f p xs e q
   | _=>exact q.elim
 | _=>exact q.elim
theorem Zl2 {o:AV} {u:Value} {k:Addr→List (Str×AV)→Prop} {m:Value→Prop} (ho:VR o u) (q:atD o H k) (f:∀ p ep es,H p=some (.dict ep es)→k p es→m (.ref p)):m u:=by
 cases ho with
 | ref p =>
  obtain ⟨o,e⟩:∃ o,H p=o:=⟨_,rfl⟩
  dsimp only [atD] at q
  rw [e] at q
  cases o with
  | none=>exact q.elim
  | some o=>cases o with
   | dict ep es=>exact f p ep es e q
   | _=>exact q.elim
 | _=>exact q.elim
theorem Zde {a b:AV} {u v:Value} {P:Int→Int→Prop} {m:Value→Value→Prop} (hu:VR a u) (hv:VR b v) (q:wii a b P) (f:∀ x y t t',P x y→m (.int x t) (.int y t')):m u v:=by
 cases hu with
 | int x t=>cases hv with
  | int y t'=>exact f x y t t' q
  | _=>exact q.elim
 | _=>exact q.elim
set_option tactic.hygienic true in
theorem Zxf {x y:Str} {t u:Tok} (hx:PyData.strOk x=true) (hy:PyData.strOk y=true) (S:St g.c R H s.heap) (m:Sm s₀ s) (q1:x.length+y.length≤sizeLine) (q2:Q (.str (x++y)) H) :
  wpAny (model g.c.prog g.c.w) A (binaryOp .Add (.str x t) (.str y u)) (TQ g R s₀ Q) E s:=by
 refine P.add_str ?_
 have e1:∀ z:Str,z.length=0→z=Str.empty:=fun z hz=>by
  obtain ⟨⟨l⟩⟩:=z
  cases l with
  | nil=>rfl
  | cons=>contradiction
 split
 ·rename_i hz
  have hz':=e1 _ (by simpa using hz)
  rw [hz'] at q2
  refine TQ.pure (.str _ u hy) S m ?_
  have e2:∀ y:Str,Str.empty++y=y:=fun y=>by show Str.append _ _=_;simp [Str.append,Str.empty]
  rw [e2] at q2;exact q2
 ·split
  ·rename_i _ hz
   have hz':=e1 _ (by simpa using hz)
   rw [hz'] at q2
   refine TQ.pure (.str _ t hx) S m ?_
   have e2:∀ x:Str,x++Str.empty=x:=fun x=>by show Str.append _ _=_;simp [Str.append,Str.empty]
   rw [e2] at q2;exact q2
  ·refine ⟨?_,TQ.toks (.str _ _ (Zjz hx hy)) S m q2⟩
   refine rl (Str.length_append ..) ?_;exact q1
theorem Zxg {x y:Addr} (S:St g.c R H s.heap) (m:Sm s₀ s) (q:wbin .Add (.ref x) (.ref y) Q H) :
  wpAny (model g.c.prog g.c.w) A (binaryOp .Add (.ref x) (.ref y)) (TQ g R s₀ Q) E s:=by
 obtain ⟨o,e1⟩:∃ o,H x=o:=⟨_,rfl⟩
 obtain ⟨o',e2⟩:∃ o,H y=o:=⟨_,rfl⟩
 replace q:(match H x,H y with
   | some (.list xs),some (.list ys)=>xs.length+ys.length≤sizeLine∧∀ z,H z=none→Q (.ref z) (up H z (.list (xs++ys)))
   | _,_=>False):=q
 rw [e1,e2] at q
 cases o with
 | none=>exact q.elim
 | some o =>
 cases o with
 | list xs=>cases o' with
  | none=>exact q.elim
  | some o'=>cases o' with
   | list ys =>
    obtain ⟨vs,n,h1,h2,h3⟩:=Zbc S e1
    obtain ⟨ws,n',k1,k2,k3⟩:=Zbc S e2
    refine P.add_list (n:=n) (n2:=n') h1 k1 ?_ (by have:=h2.length;have:=k2.length;have:=q.1;simp only [List.size_toArray];lia)
    have hvw:=h2.append k2
    refine Ze0 (n:=0) (vs:=vs++ws) S m hvw (Nat.le_refl _) (fun _ _ e=>Heap.get?_push_of_some _ e) (by refine rl (Heap.size_push ..) ?_;exact Nat.le_succ _) ?_ q.2
    refine rl (Heap.get?_push_size _ rfl) ?_;simp
   | _=>exact q.elim
 | _=>exact q.elim
theorem Zzy {op:Operator} {a b:AV} {u v:Value} {e₀:Env} {l₀:List Env} {mg mb:Str→Option Value} (C:g.c.Ok mg mb) (V:Ev g A R e₀ l₀) (hu:VR a u) (hv:VR b v) (S:St g.c R H s.heap) (m:Sm s₀ s) (q:wbin op a b Q H) :
  wpAny (model g.c.prog g.c.w) A (binaryOp op u v) (TQ g R s₀ Q) E s:=by
 cases op with
 | Add=>cases hu with
  | int x t=>cases hv with
   | int y t'=>exact add_int (TQ.toks (.int _ _) S m q)
   | _=>exact q.elim
  | str x t hx=>cases hv with
   | str y t' hy=>exact Zxf hx hy S m q.1 q.2
   | _=>exact q.elim
  | ref p=>cases hv with
   | ref p'=>exact Zxg S m q
   | _=>exact q.elim
  | _=>exact q.elim
 | Sub=>exact Zde (m:=fun u v=>wpAny _ A (binaryOp .Sub u v) (TQ g R s₀ Q) E s) hu hv q fun _ _ _ _ q=>sub_int (TQ.toks (.int _ _) S m q)
 | Mult=>exact Zde (m:=fun u v=>wpAny _ A (binaryOp .Mult u v) (TQ g R s₀ Q) E s) hu hv q fun _ _ _ _ q=>mul_int (TQ.toks (.int _ _) S m q.2) q.1
 | FloorDiv =>
  refine Zde (m:=fun u v=>wpAny _ A (binaryOp .FloorDiv u v) (TQ g R s₀ Q) E s) hu hv q fun _ _ _ _ q=>?_
  have F0:=V.stk e₀ (List.mem_cons_self ..)
  refine floordiv_int q.1 (TQ.toks (.int _ _) S m q.2) (.inr (PySem.PylongRoom.of (C.nolimit.keeps S.stays) ?_ (PySem.SeerAt.of (env:=e₀) (l:=l₀) (C.seer.keeps S.stays) C.tree V.aok.frames F0.gen F0.co F0.blt F0.glob)))
  have:=V.aok.depth
  have e:Builtin.pylongFrames≤100:=by decide
  lia
 | Mod=>exact Zde (m:=fun u v=>wpAny _ A (binaryOp .Mod u v) (TQ g R s₀ Q) E s) hu hv q fun _ _ _ _ q=>mod_int' q.1 (TQ.toks (.int _ _) S m q.2)
 | Pow =>
  refine Zde (m:=fun u v=>wpAny _ A (binaryOp .Pow u v) (TQ g R s₀ Q) E s) hu hv q fun x y _ _ q=>?_
  obtain ⟨⟨q1,q2,q3⟩,q4⟩:=q
  refine AutoIntOps.pow_4 (by lia) (by simp;lia) (by simp;lia) (by simp;lia) (by refine rl q3 ?_;simp) (show (Made.int (x ^ y.toNat)).post _ s from TQ.toks (.int _ _) S m q4)
 | _=>exact q.elim
theorem RDs.len {H:Zaa} {as:List AV}:∀ {ds:List PyData},RDs H as ds→as.length=ds.length:=by
 induction as with
 | nil=>intro ds r;cases r;rfl
 | cons a as ih=>intro ds r;cases r with | cons _ r=>exact congrArg Nat.succ (ih r)
abbrev Rds (s:Shared) (v:Value) (d:PyData):Prop:=(∃ as,Reads s.heap v d as)∧(Zlz d=true→PyData.canLay0 d=true)
abbrev RdsA (s:Shared) (vs:List Value) (ds:List PyData):Prop:=(∃ bs,ReadsAll s.heap vs ds bs)∧(Zf0 ds=true→PyData.canLayAll0 ds=true)
theorem Zvc (S:St g.c R H s.heap) {a:Addr} {xs:List AV} {ds:List PyData} (e:H a=some (.list xs)) (ih:∀ {vs},VRs xs vs→RdsA s vs ds):Rds s (.ref a) (.list ds):=by
 obtain ⟨vs,n,h1,h2,h3⟩:=Zbc S e
 obtain ⟨⟨as,ih⟩,cl⟩:=ih h2
 exact ⟨⟨_,.list h1 rfl rfl ih⟩,cl⟩
theorem Zsb (S:St g.c R H s.heap) {a:Addr} {xs:List AV} {ds:List PyData} (e:H a=some (.tuple xs)) (ih:∀ {vs},VRs xs vs→RdsA s vs ds):Rds s (.ref a) (.tuple ds):=by
 obtain ⟨vs,n,h1,h2,h3⟩:=Zc0 S e
 obtain ⟨⟨as,ih⟩,cl⟩:=ih h2
 exact ⟨⟨_,.tuple h1 rfl rfl ih⟩,cl⟩
theorem Zvd {a:AV} {d:PyData} {as:List AV} {ds:List PyData} (h:∀ {v},VR a v→Rds s v d) (ih:∀ {vs},VRs as vs→RdsA s vs ds) {vs:List Value} (hv:VRs (a::as) vs):RdsA s vs (d::ds):=by
 cases hv with
 | cons v vs =>
  obtain ⟨⟨a1,h1⟩,c1⟩:=h v
  obtain ⟨⟨a2,h2⟩,c2⟩:=ih vs
  refine ⟨⟨_,.cons h1 h2⟩,fun f=>?_⟩
  have f:=Bool.and_eq_true_iff.mp f
  exact Bool.and_eq_true_iff.mpr ⟨c1 f.1,c2 f.2⟩
theorem Zeu (S:St g.c R H s.heap) {a:AV} {d:PyData} {v:Value} (r:RD H a d):VR a v→Rds s v d :=
 @RD.rec H (fun a d _=>∀ {v},VR a v→Rds s v d) (fun as ds _=>∀ {vs},VRs as vs→RdsA s vs ds)
  (fun hv=>by cases hv;exact ⟨⟨[],.none⟩,fun _=>rfl⟩)
  (fun b _ hv=>by cases hv;exact ⟨⟨[],.bool b⟩,fun _=>rfl⟩)
  (fun i _ hv=>by cases hv with | int _ t=>exact ⟨⟨[],.int i t⟩,fun _=>rfl⟩)
  (fun x _ hv=>by cases hv with | str _ t h=>exact ⟨⟨[],.str x t⟩,fun _=>h⟩)
  (fun e _ ih _ hv=>by cases hv;exact Zvc S e ih)
  (fun e _ ih _ hv=>by cases hv;exact Zsb S e ih)
  (fun hv=>by cases hv;exact ⟨⟨[],.nil⟩,fun _=>rfl⟩)
  (fun _ _ h ih _ hv=>Zvd h ih hv) a d r v
theorem Zdz {d:PyData} (h:okD d) (c:Zlz d=true→PyData.canLay0 d=true):shaped d=true:=by
 unfold shaped
 refine rl (c h.1) ?_
 simpa using h.2
theorem Zio {mg mb:Str→Option Value} {p:Addr} {o:AObj} (C:g.c.Ok mg mb) (S:St g.c R H s.heap) (e:H p=some o) (hne:o.isX=false:=by rfl) (hb:o.isB=false:=by rfl):(p==sysModules)=false:=by
 have h1:=leN (Ztw S e hne hb)
 obtain ⟨mc,hc,_⟩:=C.nolimit
 have h2:=hc.lt
 have h3:@LT.lt Nat _ sysModules cStatics:=by decide
 have h4:@LT.lt Nat _ cStatics g.c.base.objs.size:=h2
 have:@LT.lt Nat _ sysModules p:=by lia
 exact beq_eq_false_iff_ne.mpr (Nat.ne_of_gt this)
noncomputable def eqOp (ne:Bool):CmpOp:=if ne then .NotEq else .Eq
theorem Zxe {ne:Bool} {a b:AV} {u v:Value} (un:A.units+64<cLine) (hu:VR a u) (hv:VR b v) (S:St g.c R H s.heap) (m:Sm s₀ s) {da db:PyData} (ra:RD H a da) (rb:RD H b db) (sa:okD da) (sb:okD db) (qq:Q (.bool (nt ne (PyData.eqv da db))) H) :
  wpAny (model g.c.prog g.c.w) A (compareOp (eqOp ne) u v) (TQ g R s₀ Q) E s:=by
 obtain ⟨⟨as,ra'⟩,ca⟩:=Zeu S ra hu
 obtain ⟨⟨bs,rb'⟩,cb⟩:=Zeu S rb hv
 cases ne with
 | true=>exact ne_dataH ra' rb' (Zdz sa ca) (Zdz sb cb) un (TQ.pure (.bool _) S m qq)
 | false=>exact eq_dataH ra' rb' (Zdz sa ca) (Zdz sb cb) un (TQ.pure (.bool _) S m qq)
noncomputable def weqO (ne:Bool) (a b:AV) (Q:AV→Zaa→Prop) (H:Zaa):Prop:=∃ da db,RD H a da∧RD H b db∧okD da∧okD db∧Q (.bool (nt ne (PyData.eqv da db))) H
theorem Zu9 {ne:Bool} {a b:AV} {u v:Value} {mg mb:Str→Option Value} (C:g.c.Ok mg mb) (un:A.units+64<cLine) (un':A.in1.units+64<cLine) (hu:VR a u) (hv:VR b v) (S:St g.c R H s.heap) (m:Sm s₀ s) (q:weqO ne a b Q H) :
  wpAny (model g.c.prog g.c.w) A (compareOp (eqOp ne) u v) (TQ g R s₀ Q) E s:=by
 obtain ⟨da,db,ra,rb,sa,sb,qq⟩:=q
 exact Zxe un hu hv S m ra rb sa sb qq
theorem s_eq {ne:Bool} {a b:AV} {u v:Value} {e₀:Env} {l₀:List Env} {mg mb:Str→Option Value} (C:g.c.Ok mg mb) (V:Ev g A R e₀ l₀) (hu:VR a u) (hv:VR b v) (S:St g.c R H s.heap) (m:Sm s₀ s) (q:weq ne a b Q H) :
  wpAny (model g.c.prog g.c.w) A (compareOp (eqOp ne) u v) (TQ g R s₀ Q) E s:=by
 have un:A.units+64<cLine:=by have:=V.aok.units;lia
 have un':A.in1.units+64<cLine:=by have:=V.aok.units;dsimp only [Around.in1];lia
 cases a with
 | int x=>cases b with
  | int y =>
   cases hu;cases hv
   cases ne with
   | false=>exact eq_int (TQ.pure (.bool _) S m q)
   | true=>exact ne_int (TQ.pure (.bool _) S m q)
  | _=>exact Zu9 C un un' hu hv S m q
 | str x=>cases b with
  | str y=>exact Zxe (da:=.str x) (db:=.str y) un hu hv S m (.str x) (.str y) ⟨rfl,Nat.zero_le _⟩ ⟨rfl,Nat.zero_le _⟩ q
  | _=>exact Zu9 C un un' hu hv S m q
 | _=>exact Zu9 C un un' hu hv S m q
theorem Zpu (ch:Nat) (x:Str):(!(Builtin.Str.occurrences x ⟨#[ch]⟩ 0 x.length 1).isEmpty)=x.cps.toList.contains ch:=by
 refine rl (StrLaws.found_one ..) ?_
 simp
theorem s_in {no:Bool} {a b:AV} {u v:Value} {e₀:Env} {l₀:List Env} {mg mb:Str→Option Value} (C:g.c.Ok mg mb) (V:Ev g A R e₀ l₀) (hu:VR a u) (hv:VR b v) (S:St g.c R H s.heap) (m:Sm s₀ s) (q:win no a b Q H) :
  wpAny (model g.c.prog g.c.w) A (compareOp (if no then .NotIn else .In) u v) (TQ g R s₀ Q) E s:=by
 have un:A.units+1+64<cLine:=by have:=V.aok.units;lia
 cases hv with
 | ref p =>
  obtain ⟨o,e⟩:∃ o,H p=o:=⟨_,rfl⟩
  rw [Ze7,e] at q
  cases o with
  | none=>exact q.elim
  | some o =>
  cases o with
  | list ys =>
   obtain ⟨d,ds,r1,r2,q1,q2,qq⟩:=q
   obtain ⟨⟨as,r1'⟩,c1⟩:=Zeu S r1 hu
   obtain ⟨⟨bs,r2'⟩,c2⟩:=Zeu S (.list e r2) (.ref p)
   have dd:d.depth≤64:=q1.2
   replace q1:=Zdz q1 c1
   replace q2:PyData.canLayAll0 ds=true:=c2 q2
   cases no with
   | true=>exact notIn_list_reads r2' r1' q2 (canLay_of_shaped q1) (by lia) (TQ.pure (.bool _) S m (by exact qq))
   | false=>exact in_list_reads r2' r1' q2 (canLay_of_shaped q1) (by lia) (TQ.pure (.bool _) S m (by exact qq))
  | tuple ys =>
   obtain ⟨d,ds,r1,r2,q1,q2,qq⟩:=q
   obtain ⟨⟨as,r1'⟩,c1⟩:=Zeu S r1 hu
   obtain ⟨⟨bs,r2'⟩,c2⟩:=Zeu S (.tuple e r2) (.ref p)
   have dd:d.depth≤64:=q1.2
   replace q1:=Zdz q1 c1
   replace q2:PyData.canLayAll0 ds=true:=c2 q2
   cases no with
   | true=>exact notIn_tuple_reads r2' r1' q2 (canLay_of_shaped q1) (by lia) (TQ.pure (.bool _) S m (by exact qq))
   | false=>exact in_tuple_reads r2' r1' q2 (canLay_of_shaped q1) (by lia) (TQ.pure (.bool _) S m (by exact qq))
  | dict ep es=>cases hu with
   | str k t hk =>
    obtain ⟨kvs,hd,hr⟩:=Zbk S e
    have hds:(p==sysModules)=false:=Zio C S e
    have ho:=(hr.look k).isSome
    cases no with
    | true =>
     refine wpAny_notIn_of (strKind_is _ _ k t) hds hd.dictOf.mapOf (TQ.toks (.bool _) S m ?_)
     refine rl ho ?_;exact q
    | false =>
     refine wpAny_in_of (strKind_is _ _ k t) hds hd.dictOf.mapOf (TQ.toks (.bool _) S m ?_)
     refine rl ho ?_;exact q
   | _=>exact q.elim
  | _=>exact q.elim
 | str y t hy=>cases hu with
  | str x t' hx =>
   obtain ⟨ch,rfl,qq⟩:=q
   cases no with
   | true =>
    refine notIn_str (TQ.pure (.bool _) S m ?_)
    refine rl (Zpu ..) ?_;exact qq
   | false =>
    refine in_str (TQ.pure (.bool _) S m ?_)
    refine rl (Zpu ..) ?_;exact qq
  | _=>exact q.elim
 | _=>exact q.elim
end
end Mine
end
section
namespace Mine
section
variable {g:Gx} {A:Around} {R:RR} {s₀ s:Shared} {H:Zaa} {E:Value→Shared→Prop} {Q:AV→Zaa→Prop}
set_option tactic.hygienic true in
theorem Zhq {a:AV} {u:Value} (hu:VR a u) (c:Bool):isSame u (.bool c)=pure (a==.bool c):=by
 cases hu<;>first | rfl | (rename_i b;cases c<;>cases b<;>rfl)
theorem Zgj {a:AV} {u:Value} (hu:VR a u):isSame u .none=pure (a==.none):=by
 cases hu<;>rfl
theorem Znf {op:CmpOp} {a b:AV} {u v:Value} {e₀:Env} {l₀:List Env} {mg mb:Str→Option Value} (C:g.c.Ok mg mb) (V:Ev g A R e₀ l₀) (hu:VR a u) (hv:VR b v) (S:St g.c R H s.heap) (m:Sm s₀ s)
  (q:wcmp op a b Q H):wpAny (model g.c.prog g.c.w) A (compareOp op u v) (TQ g R s₀ Q) E s:=by
 cases op with
 | Eq=>exact s_eq (ne:=false) C V hu hv S m q
 | NotEq=>exact s_eq (ne:=true) C V hu hv S m q
 | In=>exact s_in (no:=false) C V hu hv S m q
 | NotIn=>exact s_in (no:=true) C V hu hv S m q
 | Is =>
  show wpAny _ _ (do return Value.bool (← isSame u v):Sem Value) _ _ _
  cases hv with
  | none=>refine rl (Zgj hu) ?_;exact wpAny_bind (wpAny_pure (wpAny_pure (TQ.pure (.bool _) S m q)))
  | bool b=>refine rl (Zhq hu ..) ?_;exact wpAny_bind (wpAny_pure (wpAny_pure (TQ.pure (.bool _) S m q)))
  | _=>exact q.elim
 | IsNot =>
  show wpAny _ _ (do return Value.bool (!(← isSame u v)):Sem Value) _ _ _
  cases hv with
  | none=>refine rl (Zgj hu) ?_;exact wpAny_bind (wpAny_pure (wpAny_pure (TQ.pure (.bool _) S m q)))
  | bool b=>refine rl (Zhq hu ..) ?_;exact wpAny_bind (wpAny_pure (wpAny_pure (TQ.pure (.bool _) S m q)))
  | _=>exact q.elim
 | Lt=>exact Zde (m:=fun u v=>wpAny _ A (compareOp .Lt u v) (TQ g R s₀ Q) E s) hu hv q fun _ _ _ _ q=>lt_int (TQ.pure (.bool _) S m q)
 | LtE=>exact Zde (m:=fun u v=>wpAny _ A (compareOp .LtE u v) (TQ g R s₀ Q) E s) hu hv q fun _ _ _ _ q=>le_int (TQ.pure (.bool _) S m q)
 | Gt=>exact Zde (m:=fun u v=>wpAny _ A (compareOp .Gt u v) (TQ g R s₀ Q) E s) hu hv q fun _ _ _ _ q=>gt_int (TQ.pure (.bool _) S m q)
 | GtE=>exact Zde (m:=fun u v=>wpAny _ A (compareOp .GtE u v) (TQ g R s₀ Q) E s) hu hv q fun _ _ _ _ q=>ge_int (TQ.pure (.bool _) S m q)
theorem Zj3 {n:Nat} {i:Int} {j:Nat} (h:Zgn n i=some j):seqIndex? i n=some j:=by
 unfold Zgn at h
 unfold seqIndex?
 split at h
 ·split at h
  ·obtain rfl:=Option.some.inj h;have:¬ i<0:=by omega
   simp only [this,if_false];exact rl (if_pos (by simp;omega)) rfl
  ·contradiction
 ·split at h
  ·obtain rfl:=Option.some.inj h;have:i<0:=by omega
   simp only [this,if_true];exact rl (if_pos (by simp;omega)) rfl
  ·contradiction
theorem Zsc {n:Nat} {i:Int} {j:Nat} (h:Zgn n i=some j):j<n∧(0≤i→j=i.toNat)∧(i<0→j=(i+n).toNat∧-(n:Int)≤i):=by
 unfold Zgn at h
 split at h
 ·split at h
  ·obtain rfl:=Option.some.inj h;omega
  ·contradiction
 ·split at h
  ·obtain rfl:=Option.some.inj h;omega
  ·contradiction
theorem Zzr {value slice:Expr} {a i:AV} {u v:Value} {mg mb:Str→Option Value} (_C:g.c.Ok mg mb) (hu:VR a u) (hv:VR i v) (S:St g.c R H s.heap) (m:Sm s₀ s) (q:wsub a i Q H)
  (hs:∀ o j,subscripted slice false o j=operate [o,j] (getItem o j)):wpAny (model g.c.prog g.c.w) A (subscriptTail value slice u v) (TQ g R s₀ Q) E s:=by
 cases hu with
 | ref p=>
  obtain ⟨o,e⟩:∃ o,H p=o:=⟨_,rfl⟩
  cases hv with
  | int i t =>
   rw [Zgf,e] at q
   cases o with
   | none=>exact q.elim
   | some o =>
   cases o with
   | list xs =>
    obtain ⟨j,x,h1,h2,h3,h4,qq⟩:=q
    obtain ⟨vs,n,k1,k2,k3⟩:=Zbc S e
    obtain ⟨y,y1,y2⟩:=k2.get h4
    obtain ⟨p1,p2,p3⟩:=Zsc h1
    rw [k2.length] at p3
    refine tail_any k3.typeIs slot_list_getitem.lookup ?_ (hs _ _)
    by_cases hz:0≤i
    ·exact wpAny_getItem_list k3 hz h2 (by refine rl (Eq.symm (p2 hz)) ?_;simpa using y1) (TQ.pure y2 S m qq)
    ·have hz:=Int.not_le.mp hz
     obtain ⟨p4,p5⟩:=p3 hz
     exact wpAny_getItem_list_neg k3 hz (by simpa using p5) h3 (by simp only [List.size_toArray];refine rl p4.symm ?_;simpa using y1) (TQ.pure y2 S m qq)
   | tuple xs =>
    obtain ⟨j,x,h1,h2,h3,h4,qq⟩:=q
    obtain ⟨vs,n,k1,k2,k3⟩:=Zc0 S e
    obtain ⟨y,y1,y2⟩:=k2.get h4
    refine tail_any k3.typeIs slot_tuple_getitem.lookup ?_ (hs _ _)
    exact getItem_tuple k3 h3 h2 (by simp only [List.size_toArray];refine rl k2.length.symm ?_;exact Zj3 h1) (by simpa using y1) (TQ.pure y2 S m qq)
   | script ns =>
    obtain ⟨h1,h2,nn,h3,qq⟩:=q
    obtain ⟨⟨D,vs,n,k1,k2⟩,_⟩:=S.orep e
    obtain ⟨y,y1,y2⟩:=k2.get (i:=i.toNat) (a:=.int nn) (by refine rl (List.getElem?_map) (rl h3 ?_);rfl)
    have k3:s.heap.IsList _ vs.toArray:=⟨_,k1,rfl,_,rfl⟩
    refine tail_any k3.typeIs slot_list_getitem.lookup ?_ (hs _ _)
    exact wpAny_getItem_list k3 h1 h2 (by simpa using y1) (TQ.pure y2 S m qq)
   | _=>exact q.elim
  | str k t hk =>
   rw [Zge,e] at q
   cases o with
   | none=>exact q.elim
   | some o =>
   cases o with
   | dict ep es =>
    obtain ⟨x,hx,qq⟩:=q
    obtain ⟨kvs,hd,hr⟩:=Zbk S e
    have ho:=hr.look k
    rw [hx] at ho
    generalize hval:valueAt kvs k=y at ho
    cases ho with
    | some hv =>
     refine tail_any hd.dictOf.typeIs slot_dict_getitem.lookup ?_ (hs _ _)
     exact wpAny_getItem_of (strKind_is _ _ k t) hd.dictOf.mapOf hval (TQ.toks hv S m qq)
   | _=>exact q.elim
  | _=>exact q.elim
 | str x t hx=>cases hv with
  | int i u =>
   obtain ⟨h1,h2,ch,h3,qq⟩:=q
   refine tail_any (typeIs_str s _ t) slot_str_getitem.lookup ?_ (hs _ _)
   have hlt:i.toNat<x.cps.size:=(Array.getElem?_eq_some_iff.mp h3).1
   refine getItem_str (by simp;omega) (c:=ch) ?_ (TQ.toks (.str _ _ ?_) S m qq)
   ·have:seqIndex? i x.length=some i.toNat:=Zj3 (by unfold Zgn;exact rl (if_pos h1) (rl (if_pos (show i<((x.length:Nat):Int) from show i<((x.cps.size:Nat):Int) by omega)) rfl))
    refine rl this ?_;exact h3
   ·have hm:=Array.mem_of_getElem? h3
    exact Zi0 (l:=[ch]) (by intro c hc;refine rl (List.mem_singleton.mp hc) ?_;exact Zg6 hx hm)
  | _=>exact q.elim
 | _=>exact q.elim
theorem VRs.filterMap {xs:List AV} {vs:List Value} (h:VRs xs vs):∀ ks:List Nat,VRs (ks.filterMap (xs[·]?)) (ks.filterMap (vs[·]?))
 | []=>.nil
 | k::r=>by
  have ih:=VRs.filterMap h r
  dsimp only [List.filterMap_cons]
  cases e:xs[k]? with
  | none =>
   have:vs[k]? = none:=by rw [List.getElem?_eq_none_iff] at e ⊢;refine rl h.length.symm ?_;exact e
   refine rl this ?_;exact ih
  | some a =>
   obtain ⟨v,hv,hr⟩:=h.get e
   refine rl hv ?_;exact .cons hr ih
theorem Zpb {x:Str} {a b:Nat} {l u:Option (Int×Tok)} (hab:a≤b) (hb:b≤x.length) (hl:l.map (·.1)=some (a:Int)∨(l=none∧a=0)) (hu:u.map (·.1)=some (b:Int)∨(u=none∧b=x.length)):slicePicked x l u none=Builtin.Str.strSliceIndices (some (a:Int)) (some (b:Int)) 1 x.length:=by
 show Builtin.Str.strSliceIndices _ _ 1 x.length=_
 rcases hl with hl | ⟨rfl,rfl⟩<;>rcases hu with hu | ⟨rfl,rfl⟩
 ·exact rl hl (rl hu rfl)
 ·refine rl hl ?_;exact StrLaws.sliceIdx_none_hi _ _
 ·refine rl hu ?_;exact StrLaws.sliceIdx_none_lo _ _
 ·exact (StrLaws.sliceIdx_none_lo _ _).trans (StrLaws.sliceIdx_none_hi _ _)
theorem Zi1 {x:Str}:x.cps.toList.length=x.length:=by simp [Str.length]
set_option tactic.hygienic true in
theorem Zj2 {x:Str} {tk:Tok} {a b:Nat} {l u:Option (Int×Tok)} {z:Addr} (hx:PyData.strOk x=true) (hab:a≤b) (hb:b≤x.length) (hz:x.length≤sizeLine) (hl:l.map (·.1)=some (a:Int)∨(l=none∧a=0)) (hu:u.map (·.1)=some (b:Int)∨(u=none∧b=x.length)) (q:Q (.str ⟨((x.cps.toList.drop a).take (b - a)).toArray⟩) H) (hsl:s.heap.IsSlice z l u none) (S:St g.c R H s.heap) (m:Sm s₀ s) :
  wpAny (model g.c.prog g.c.w) A (getItem (.str x tk) (.ref z)) (TQ g R s₀ Q) E s:=by
 refine wpAny_getItem_str_slice hsl rfl ?_
 have e0:=Zpb hab hb hl hu
 have el:(slicePicked x l u none).length=b - a:=by
  rw [e0,StrLaws.strSliceIndices_plain hab hb,List.length_map,List.length_range]
 have e:(slicePicked x l u none).filterMap (x.cps[·]?)=(x.cps.toList.drop a).take (b - a):=by
  rw [e0];exact StrLaws.sliced_plain x hab hb
 unfold sliceMade
 split
 ·rename_i hc
  refine TQ.pure (.str _ tk hx) S m ?_
  have hc':b - a=x.length:=by
   have:=(Bool.and_eq_true_iff.mp hc).2
   rw [el] at this
   simpa using this
  have:(⟨((x.cps.toList.drop a).take (b - a)).toArray⟩:Str)=x:=by
   exact rl hc' (rl (show a=0 by omega) (rl List.drop_zero (rl (List.take_of_length_le (Nat.le_of_eq Zi1)) (rl Array.toArray_toList rfl))))
  rw [this] at q;exact q
 ·rw [e]
  refine ⟨?_,TQ.toks (.str _ _ ?_) S m q⟩
  ·show (List.toArray _).size≤sizeLine
   rw [List.size_toArray,List.length_take,List.length_drop,Zi1];omega
  ·exact Zi0 fun ch hc=>Zg6 hx (by have:=List.mem_of_mem_drop (List.mem_of_mem_take hc);simpa using this)
theorem part_of {x:Option AV} {v:Value} {k:Option Int} (h:(x=none∧v = .none)∨∃ y,x=some y∧VR y v) (e:Zh2 x=some k):IsPart v k:=by
 rcases h with ⟨rfl,rfl⟩ | ⟨y,rfl,hv⟩
 ·obtain rfl:=Option.some.inj e;exact .none
 ·cases hv<;>cases e
  exact .int _ _
theorem Zlr {v:Value} (h:((none:Option AV)=none∧v = .none)∨∃ y,(none:Option AV)=some y∧VR y v):v = .none:=h.elim (·.2) fun ⟨_,e,_⟩=>by contradiction
theorem Zmr {v:Value} {i:Int} (h:(some (AV.int i)=none∧v = .none)∨∃ y,some (AV.int i)=some y∧VR y v):∃ t,v = .int i t:=by
 rcases h with ⟨z,_⟩ | ⟨y,z,hv⟩
 ·contradiction
 ·obtain rfl:=Option.some.inj z
  cases hv with
  | int _ t=>exact ⟨t,rfl⟩
theorem Zu5 {value:Expr} {lo hi st:Option Expr} {p:Pos} {a:AV} {l u t:Option AV} {o vl vu vt:Value} (hu:VR a o)
  (hl:(l=none∧vl = .none)∨∃ x,l=some x∧VR x vl) (hh:(u=none∧vu = .none)∨∃ x,u=some x∧VR x vu) (ht:(t=none∧vt = .none)∨∃ x,t=some x∧VR x vt)
  (S:St g.c R H s.heap) (m:Sm s₀ s) (q:Zg0 a l u t Q H) :
  wpAny (model g.c.prog g.c.w) A (subscriptTail value (.Slice lo hi st p) o (.ref s.heap.objs.size)) (TQ g R s₀ Q) E { s with heap:=s.heap.push { cls:=.type "slice",data:=.fields #[vl,vu,vt] } }:=by
 have hs:∀ o j,∃ ops,subscripted (.Slice lo hi st p) false o j=operate ops (getItem o j):=by
  intro o j
  cases st with
  | none=>exact ⟨_,rfl⟩
  | some _=>exact ⟨_,rfl⟩
 cases hu with
 | ref pa =>
  obtain ⟨oo,e⟩:∃ oo,H pa=oo:=⟨_,rfl⟩
  rw [Zt3,e] at q
  cases oo with
  | none=>exact q.elim
  | some oo =>
  cases oo with
  | list xs =>
   obtain ⟨li,ui,ti,e1,e2,e3,h0,hz,qq⟩:=q
   obtain ⟨vs,n,k1,k2,k3⟩:=Zbc S e
   obtain ⟨ops,hop⟩:=hs (.ref pa) (.ref s.heap.objs.size)
   refine tail_any (Heap.IsList.typeIs (s:={ s with heap:=s.heap.push _ }) (k3.push _)) slot_list_getitem.lookup ?_ hop
   refine wpAny_getItem_list_slice (k3.push _) (Heap.IsSliceOf.new ..) (part_of hl e1) (part_of hh e2) (part_of ht e3) h0 ?_ (by simp only [List.size_toArray];refine rl k2.length.symm ?_;exact hz)
   have hp:VRs (Zbz xs li ui ti) (Zbz vs li ui ti):=by
    unfold Zbz;refine rl k2.length ?_;exact k2.filterMap _
   dsimp only
   refine rl (Heap.size_push ..) ?_
   refine Ze0 (n:=0) (vs:=Zbz vs li ui ti) S m hp (Nat.le_succ _) (fun _ _ z=>Heap.get?_push_of_some _ (Heap.get?_push_of_some _ z)) (by refine rl (Heap.size_push ..) (rl (Heap.size_push ..) ?_);exact Nat.le_add_right _ 2) ?_ qq
   have:=Heap.get?_push_size (s.heap.push { cls:=.type "slice",data:=.fields #[vl,vu,vt] }) (o:={ cls:=.type "list",data:=.seq (slicePick vs.toArray li ui ti) }) rfl
   rw [Heap.size_push] at this
   refine rl this ?_
   simp [slicePick,Zbz]
  | _=>exact q.elim
 | str x tk hx =>
  obtain ⟨ops,hop⟩:=hs (.str x tk) (.ref s.heap.objs.size)
  refine tail_any (typeIs_str _ _ tk) slot_str_getitem.lookup ?_ hop
  cases t with
  | some=>cases l with
   | none=>cases u with
    | none=>exact q.elim
    | some y=>cases y<;>exact q.elim
   | some y=>cases u<;>cases y<;>exact q.elim
  | none =>
  cases Zlr ht
  cases l with
  | none=>cases u with
   | none=>exact q.elim
   | some y=>cases y with
    | int ui =>
     rw [Zzn] at q
     obtain ⟨h1,h2,h3,qq⟩:=q
     cases Zlr hl
     obtain ⟨t1,rfl⟩:=Zmr hh
     refine Zj2 (s:={ s with heap:=_ }) (a:=0) (b:=ui.toNat) (l:=none) (u:=some (ui,t1)) hx (Nat.zero_le _) (by omega) h3 (.inr ⟨rfl,rfl⟩) (.inl (by show some ui=_;exact rl (Int.toNat_of_nonneg h1) rfl)) ?_ ⟨_,Heap.get?_push_size _ rfl,rfl,rfl⟩ (S.push _) (m.heap _)
     refine rl (List.drop_zero ..) (rl (Nat.sub_zero ..) ?_);exact qq
    | _=>exact q.elim
  | some y=>cases u with
   | some=>cases y<;>exact q.elim
   | none=>cases y with
    | int li =>
     rw [Zzm] at q
     obtain ⟨h1,h2,h3,qq⟩:=q
     cases Zlr hh
     obtain ⟨t1,rfl⟩:=Zmr hl
     refine Zj2 (s:={ s with heap:=_ }) (a:=li.toNat) (b:=x.length) (l:=some (li,t1)) (u:=none) hx (by omega) (Nat.le_refl _) h3 (.inl (by show some li=_;exact rl (Int.toNat_of_nonneg h1) rfl)) (.inr ⟨rfl,rfl⟩) ?_ ⟨_,Heap.get?_push_size _ rfl,rfl,rfl⟩ (S.push _) (m.heap _)
     refine rl (List.take_of_length_le (by rw [List.length_drop,Zi1];exact Nat.le_refl _)) ?_;exact qq
    | _=>exact q.elim
 | _=>exact q.elim
end
end Mine
end
section
namespace Mine
section
variable {prog:Program} {w:World} {A:Around} {E:Value→Shared→Prop} {s:Shared}
end
end Mine
end
section
namespace Mine
section
variable {c:Cx} {R:RR} {H:Zaa} {h h':Heap}
theorem St1.addObj (S:St1 c R H h) {x:Addr} {o:AObj} {ob:Obj} (r:R x=none) (hb:c.base.objs.size≤x) (hob:h.get? x=some ob) (hc:ob.cls≠.type "dict") (hni:∀ cl es,o≠.inst cl es) (ho:∀ D,ORep c h D x o):St1 c R (up H x o) h:=by
 obtain ⟨s1,s2,s3,D,s4⟩:=S
 have hD:∀ a cl es,H a=some (.inst cl es)→D a≠x:=fun a cl es e q=>by
  obtain ⟨_,ents,n,q2,_⟩:=s4.rep a _ e
  rw [q,hob] at q2
  exact hc (by exact rl (Option.some.inj q2) rfl)
 refine ⟨s1,s2,s3,D,⟨fun a ao e=>?_,fun a ao e=>?_,fun a cl es e=>?_,fun a b cl es cl' es' e e'=>?_⟩⟩
 ·by_cases q:a=x
  ·subst q;rw [Zac] at e;obtain rfl:=Option.some.inj e;exact ho D
  ·rw [Zab q] at e;exact s4.rep a ao e
 ·by_cases q:a=x
  ·subst q;exact ⟨abv hb,r⟩
  ·rw [Zab q] at e;exact s4.above a ao e
 ·by_cases q:a=x
  ·subst q;rw [Zac] at e;obtain rfl:=Option.some.inj e;exact absurd rfl (hni cl es)
  ·rw [Zab q] at e
   obtain ⟨y1,y2,y3⟩:=s4.dict a cl es e
   exact ⟨y1,y2,by refine rl (Zab (hD a cl es e)) ?_;exact y3⟩
 ·by_cases q:a=x
  ·subst q;rw [Zac] at e;obtain rfl:=Option.some.inj e;exact absurd rfl (hni cl es)
  ·by_cases q':b=x
   ·subst q';rw [Zac] at e';obtain rfl:=Option.some.inj e';exact absurd rfl (hni cl' es')
   ·rw [Zab q] at e;rw [Zab q'] at e';exact s4.inj a b cl es cl' es' e e'
structure Fz (c:Cx) (R:RR) (h h':Heap) (lo:Nat) (H:Zaa):Prop where
 st:∃ H₁,St1 c R H₁ h'∧Real H H₁∧∀ z:Nat,z=h.objs.size∨lo<z→h.objs.size≤z→H₁ z=none
 r:∀ z:Nat,h.objs.size≤z→R z=none∧c.base.objs.size≤z
theorem Fz.start (S:St c R H h) (k:∀ b ob,h.get? b=some ob→h'.get? b=some ob) (hs:h.objs.size≤h'.objs.size):Fz c R h h' h.objs.size H :=
 let ⟨H₁,s,r⟩:=S
 ⟨⟨H₁,s.keeps k hs,r,fun z _ hz=>s.freeH hz⟩,fun z hz=>⟨s.freeR hz,Nat.le_trans s.size hz⟩⟩
theorem Fz.add {lo:Nat} (F:Fz c R h h' lo H) {x:Addr} {o:AObj} {ob:Obj} (hx:h.objs.size≤x) (hl:lo<x) (hob:h'.get? x=some ob) (hc:ob.cls≠.type "dict") (hni:∀ cl es,o≠.inst cl es) (ho:∀ D,ORep c h' D x o) (hb:o.isB=false) (hlo:h.objs.size≤lo):H x=none∧Fz c R h h' x (up H x o):=by
 obtain ⟨⟨H₁,s,r,f⟩,fr⟩:=F
 have e:=f x (.inr hl) hx
 obtain ⟨e1,e2⟩:=fr x hx
 refine ⟨r.none e,⟨_,s.addObj e1 e2 hob hc hni ho,r.put hb (.inl e),fun z hz hz'=>?_⟩,fr⟩
 rw [Zab]
 ·exact f z (hz.imp_right fun q=>Nat.lt_trans hl q) hz'
 ·rintro rfl
  rcases hz with q | q
  ·have q':(z:Nat)=h.objs.size:=q
   omega
  ·exact Nat.lt_irrefl _ q
theorem Fz.last {lo:Nat} (F:Fz c R h h' lo H) {o:AObj} {ob:Obj} (hob:h'.get? h.objs.size=some ob) (hc:ob.cls≠.type "dict") (hni:∀ cl es,o≠.inst cl es) (ho:∀ D,ORep c h' D h.objs.size o) (hb:o.isB=false):H h.objs.size=none∧St c R (up H h.objs.size o) h':=by
 obtain ⟨⟨H₁,s,r,f⟩,fr⟩:=F
 have e:=f h.objs.size (.inl rfl) (Nat.le_refl _)
 obtain ⟨e1,e2⟩:=fr h.objs.size (Nat.le_refl _)
 exact ⟨r.none e,_,s.addObj e1 e2 hob hc hni ho,r.put hb (.inl e)⟩
theorem newP {es:List (Str×AV)} {kvs:List (Str×Value)} {as:List Addr} {lo:Nat} {K:List Addr→Zaa→Prop} (hr:DRs es kvs) (F:Fz c R h h' lo H) (hlo:h.objs.size≤lo) (hl:as.length=kvs.length) (ri:as.Pairwise (· < ·)) (ab:∀ a∈as,lo<a)
  (hp:∀ (j:Nat) (a:Addr),as[j]? = some a→∃ key k x,kvs[j]? = some (k,x)∧(strKind c.prog c.w).is k key=true∧h'.get? a=some { cls:=.type "tuple",data:=.seq #[key,x] }) (q:Zft H es K):∃ H' lo',Fz c R h h' lo' H'∧K as H':=by
 induction hr generalizing as lo H K with
 | nil=>cases as with
  | nil=>exact ⟨H,lo,F,q⟩
  | cons=>cases hl
 | @cons k a0 x es kvs h1 h2 _ ih=>cases as with
  | nil=>cases hl
  | cons a as =>
   obtain ⟨r1,r2⟩:=List.pairwise_cons.mp ri
   obtain ⟨key,k',x',e1,e2,e3⟩:=hp 0 a rfl
   obtain ⟨rfl,rfl⟩:=Prod.mk.inj (Option.some.inj e1)
   have hla:lo<a:=ab a (.head _)
   obtain ⟨t,rfl⟩:∃ t,key = .str k t:=by
    cases key<;>simp [PySem.strKind,Value.isStrOf] at e2
    subst e2;exact ⟨_,rfl⟩
   obtain ⟨z,F'⟩:=F.add (o:=.tuple [.str k,_]) (Nat.le_of_lt (Nat.lt_of_le_of_lt hlo hla)) hla e3 (fun z=>absurd (Value.type.inj z) (by decide)) (by intro _ _ z;contradiction) (fun D=>⟨[.str k t,x],0,e3,.cons (.str _ _ h1) (.cons h2 .nil)⟩) rfl hlo
   exact ih (as:=as) F' (Nat.le_of_lt (Nat.lt_of_le_of_lt hlo hla)) (Nat.succ.inj hl) r2 r1 (fun j b hb=>hp (j+1) b hb) (q a z)
end
end Mine
end
section
namespace Mine
section
variable {g:Gx} {A:Around} {R:RR} {s₀ s:Shared} {H:Zaa} {E:Value→Shared→Prop} {Q:AV→Zaa→Prop}
set_option tactic.hygienic true in
theorem Zzw {a:AV} {u:Value} {k ty:String} {b:Bool} (hu:VR a u) (S:St g.c R H s.heap) (m:Sm s₀ s) (hk:Ze4 H a=some k) (hty:ty = "int"∨ty = "bool"∨ty = "str"∨ty = "list")
  (hb:(k==ty||(k=="bool"&&ty=="int"))=b) (q:Q (.bool b) H):wpAny (model g.c.prog g.c.w) A (call (.builtin "isinstance") [u,.type ty]) (TQ g R s₀ Q) E s:=by
 subst hb
 cases hu with
 | none =>
  obtain rfl:=Option.some.inj hk
  rcases hty with rfl | rfl | rfl | rfl
  ·exact IsiPair.NoneType_int (TQ.toks (.bool _) S m q)
  ·exact IsiPair.NoneType_bool (TQ.toks (.bool _) S m q)
  ·exact IsiPair.NoneType_str (TQ.toks (.bool _) S m q)
  ·exact IsiPair.NoneType_list (TQ.toks (.bool _) S m q)
 | bool b =>
  obtain rfl:=Option.some.inj hk
  rcases hty with rfl | rfl | rfl | rfl
  ·exact IsiPair.bool_int (TQ.pure (.bool _) S m q)
  ·exact IsiPair.bool_bool (TQ.pure (.bool _) S m q)
  ·exact IsiPair.bool_str (TQ.toks (.bool _) S m q)
  ·exact IsiPair.bool_list (TQ.toks (.bool _) S m q)
 | int i t =>
  obtain rfl:=Option.some.inj hk
  rcases hty with rfl | rfl | rfl | rfl
  ·exact IsiPair.int_int (TQ.pure (.bool _) S m q)
  ·exact IsiPair.int_bool (TQ.toks (.bool _) S m q)
  ·exact IsiPair.int_str (TQ.toks (.bool _) S m q)
  ·exact IsiPair.int_list (TQ.toks (.bool _) S m q)
 | str x t hx =>
  obtain rfl:=Option.some.inj hk
  rcases hty with rfl | rfl | rfl | rfl
  ·exact IsiPair.str_int (TQ.toks (.bool _) S m q)
  ·exact IsiPair.str_bool (TQ.toks (.bool _) S m q)
  ·exact IsiPair.str_str (TQ.pure (.bool _) S m q)
  ·exact IsiPair.str_list (TQ.toks (.bool _) S m q)
 | ref p =>
  unfold Ze4 at hk
  dsimp only at hk
  split at hk
  ·rename_i xs e
   obtain rfl:=Option.some.inj hk
   obtain ⟨vs,n,h1,h2,h3⟩:=Zbc S e
   rcases hty with rfl | rfl | rfl | rfl
   ·exact IsiPair.list_int h1 rfl (TQ.toks (.bool _) S m q)
   ·exact IsiPair.list_bool h1 rfl (TQ.toks (.bool _) S m q)
   ·exact IsiPair.list_str h1 rfl (TQ.toks (.bool _) S m q)
   ·exact IsiPair.list_list h1 rfl (TQ.pure (.bool _) S m q)
  ·rename_i xs e
   obtain rfl:=Option.some.inj hk
   obtain ⟨vs,n,h1,h2,h3⟩:=Zc0 S e
   rcases hty with rfl | rfl | rfl | rfl
   ·exact IsiPair.tuple_int h1 rfl (TQ.toks (.bool _) S m q)
   ·exact IsiPair.tuple_bool h1 rfl (TQ.toks (.bool _) S m q)
   ·exact IsiPair.tuple_str h1 rfl (TQ.toks (.bool _) S m q)
   ·exact IsiPair.tuple_list h1 rfl (TQ.toks (.bool _) S m q)
  ·rename_i ep es e
   obtain rfl:=Option.some.inj hk
   obtain ⟨kvs,⟨o,ents,h1,h2,h3⟩,hr⟩:=Zbk S e
   rcases hty with rfl | rfl | rfl | rfl
   ·exact IsiPair.dict_int h1 h2.1 (TQ.toks (.bool _) S m q)
   ·exact IsiPair.dict_bool h1 h2.1 (TQ.toks (.bool _) S m q)
   ·exact IsiPair.dict_str h1 h2.1 (TQ.toks (.bool _) S m q)
   ·exact IsiPair.dict_list h1 h2.1 (TQ.toks (.bool _) S m q)
  ·contradiction
noncomputable def Zi7:Pr→Value
 | .len=>.builtin "len"
 | .list=>.type "list"
 | .int=>.type "int"
 | .range=>.type "range"
 | .sum=>.builtin "sum"
 | .all=>.builtin "all"
 | .min=>.builtin "min"
 | .max=>.builtin "max"
 | .min3=>.builtin "min"
noncomputable def Zgt:String→Value
 | "len"=>.builtin "len"
 | "list"=>.type "list"
 | "int"=>.type "int"
 | "range"=>.type "range"
 | "sum"=>.builtin "sum"
 | "all"=>.builtin "all"
 | "min"=>.builtin "min"
 | "max"=>.builtin "max"
 | "isinstance"=>.builtin "isinstance"
 | "bool"=>.type "bool"
 | "str"=>.type "str"
 | "ValueError"=>.type "ValueError"
 | _=>.builtin "?"
theorem Zj4 (f:Pr):Zgt f.str=Zi7 f:=by cases f<;>rfl
theorem Znl (f:Pr):(∃ i,Zi7 f = .builtin i)∨∃ i,Zi7 f = .type i:=by
 cases f<;>first | exact .inl ⟨_,rfl⟩ | exact .inr ⟨_,rfl⟩
theorem St.kept {h h':Heap} {e₀:Env} {l₀:List Env} (ev:Ev g A R e₀ l₀) (S:St g.c R H h) (k:∀ b o,h.get? b=some o→h'.get? b=some o):St g.c R H h':=by
 obtain ⟨m,hm⟩:=(ev.stk e₀ (List.mem_cons_self ..)).ns
 obtain ⟨o,_,_,w,_⟩:=(S.res _ _ hm).2
 have h1:=(S.res _ _ hm).1
 have h2:=lts (k _ _ w)
 obtain ⟨H₁,⟨s1,s2,s3,D,s4⟩,r⟩:=S
 exact ⟨H₁,⟨fun b o e=>k b o (s1 b o e),Nat.le_of_lt (Nat.lt_of_le_of_lt h1 h2),fun b r e=>⟨(s3 b r e).1,(s3 b r e).2.agree fun _=>k _ _⟩,D,
  ⟨fun a o e=>(s4.rep a o e).agree (fun _=>k _ _) fun _ _ _=>⟨rfl,fun _=>k _ _⟩,s4.above,s4.dict,s4.inj⟩⟩,r⟩
theorem Zn5 {K:Type} {kvs:List (K×Value)} {acc:Array Value} (h:ItemsOf (fun i v=>∃ k,kvs[i]? = some (k,v)) acc kvs.length):acc.toList=kvs.map (·.2):=by
 obtain ⟨h1,h2⟩:=h
 exact kdl_vals_eq acc.toList (by simpa using h1) fun j v e=>h2 j v (by simpa using e)
theorem VRs.of_get:∀ {as:List AV} {vs:List Value},as.length=vs.length→(∀ (i:Nat) a v,as[i]? = some a→vs[i]? = some v→VR a v)→VRs as vs
 | [],[],_,_=>.nil
 | a::as,v::vs,hl,h=>.cons (h 0 a v rfl rfl) (VRs.of_get (Nat.succ.inj hl) fun i=>h (i+1))
theorem DRs.key {es:List (Str×AV)} {kvs:List (Str×Value)} (h:DRs es kvs):∀ {k:Nat} {n:Str} {v:Value},kvs[k]? = some (n,v)→∃ a,es[k]? = some (n,a)∧PyData.strOk n=true:=by
 induction h with
 | nil=>intro k n a e;simp at e
 | cons h1 h2 _ ih =>
  intro k n a e
  cases k with
  | zero=>simp at e;obtain ⟨rfl,rfl⟩:=e;exact ⟨_,rfl,h1⟩
  | succ k=>exact ih (by simpa using e)
theorem Zg7 {prog:Program} {w:World} {k:Str} {key:Value} (h:(PySem.strKind prog w).is k key=true):∃ t,key = .str k t:=by
 cases key<;>simp [PySem.strKind,Value.isStrOf] at h
 subst h;exact ⟨_,rfl⟩
theorem VRs.refs:∀ {as:List Addr},VRs (as.map .ref) (as.map Value.ref)
 | []=>.nil
 | _::_=>.cons (.ref _) VRs.refs
theorem Zu7 {p:Addr} {e₀:Env} {l₀:List Env} {mg mb:Str→Option Value} (C:g.c.Ok mg mb) (ev:Ev g A R e₀ l₀) (S:St g.c R H s.heap) (m:Sm s₀ s) (q:Zdx g.md .list [.ref p] Q H) :
  wpAny (model g.c.prog g.c.w) A (call (.type "list") [.ref p]) (TQ g R s₀ Q) E s:=by
 obtain ⟨oo,e⟩:∃ oo,H p=oo:=⟨_,rfl⟩
 rw [Zdt,e] at q
 cases oo with
 | none=>exact q.elim
 | some oo =>
 cases oo with
 | list xs =>
  obtain ⟨vs,n,k1,k2,k3⟩:=Zbc S e
  have hl:=k2.length
  refine call_list_seq (hsz:=by simp only [List.size_toArray];refine rl hl.symm ?_;exact q.1) _ (.inl rfl) k1 rfl rfl fun h' c' hk hD=>?_
  exact Ze0 (s:=s) S m k2 (Nat.le_refl _) hk (Nat.le_of_lt (lts hD)) hD q.2
 | tuple xs =>
  obtain ⟨vs,n,k1,k2,k3⟩:=Zc0 S e
  have hl:=k2.length
  refine call_list_seq (hsz:=by simp only [List.size_toArray];refine rl hl.symm ?_;exact q.1) _ (.inr rfl) k1 rfl rfl fun h' c' hk hD=>?_
  exact Ze0 (s:=s) S m k2 (Nat.le_refl _) hk (Nat.le_of_lt (lts hD)) hD q.2
 | dict ep es =>
  obtain ⟨hmd,hz,q⟩:=q
  obtain ⟨kvs,hd,hr⟩:=Zbk S e
  have hl:=hr.length
  refine kdl_call (kdl_dict (knd:=strKind g.c.prog g.c.w) (kvs:=kvs) (ep:=ep) (Zio C S e)) (ev.aok.hand hmd) hd (by refine rl hl ?_;exact hz) fun h' tk acc' c' hk hD hi=>?_
  have hvr:VRs (es.map fun e=>AV.str e.1) acc'.toList:=by
   refine VRs.of_get (by refine rl (List.length_map ..) (rl (Eq.symm (hl ..)) (rl (Eq.symm (hi.1 ..)) ?_));rfl) fun i a v h1 h2=>?_
   obtain ⟨k,x,h3,h4⟩:=hi.2 i v (by simpa using h2)
   obtain ⟨t,rfl⟩:=Zg7 h4
   obtain ⟨av,h5,h6⟩:=hr.key h3
   rw [List.getElem?_map,h5] at h1
   obtain rfl:=Option.some.inj h1
   exact .str _ _ h6
  exact Ze0 (s:=s) (n:=c') S m hvr (Nat.le_refl _) hk (Nat.le_of_lt (lts hD)) (by exact rl hD rfl) q
 | vals d =>
  obtain ⟨oo,e'⟩:∃ oo,H d=oo:=⟨_,rfl⟩
  dsimp only at q
  rw [e'] at q
  cases oo with
  | none=>exact q.elim
  | some oo =>
  cases oo with
  | dict ep es =>
   obtain ⟨hmd,hz,q⟩:=q
   obtain ⟨kvs,hd,hr⟩:=Zbk S e'
   have hl:=hr.length
   obtain ⟨⟨D,hv⟩,_⟩:=S.orep e
   refine kdl_call (kdl_values (knd:=strKind g.c.prog g.c.w) (kvs:=kvs) (ep:=ep)) (ev.aok.hand hmd) ⟨⟨_,hv,rfl,rfl⟩,hd⟩ (by refine rl hl ?_;exact hz) fun h' tk acc' c' hk hD hi=>?_
   refine Ze0 (s:=s) (n:=c') S m (vs:=acc'.toList) ?_ (Nat.le_refl _) hk (Nat.le_of_lt (lts hD)) (by exact rl hD rfl) q
   refine rl (Zn5 hi) ?_;exact hr.vals
  | _=>exact q.elim
 | itms d =>
  obtain ⟨oo,e'⟩:∃ oo,H d=oo:=⟨_,rfl⟩
  dsimp only at q
  rw [e'] at q
  cases oo with
  | none=>exact q.elim
  | some oo =>
  cases oo with
  | dict ep es =>
   obtain ⟨hmd,hz,q⟩:=q
   obtain ⟨kvs,hd,hr⟩:=Zbk S e'
   have hl:=hr.length
   obtain ⟨⟨D,hv⟩,_⟩:=S.orep e
   refine kdx_call (knd:=strKind g.c.prog g.c.w) (kvs:=kvs) (ep:=ep) (ev.aok.hand hmd) ⟨_,hv,rfl,rfl⟩ hd (by refine rl hl ?_;exact hz) fun h' tk acc c' as hk hD hal hG hacc=>?_
   obtain ⟨H',lo,F,q⟩:=newP hr (Fz.start S hk (Nat.le_of_lt (lts hD))) (Nat.le_refl _) hal hG.rise hG.above hG.pairs q
   obtain ⟨z,S'⟩:=F.last (o:=.list (as.map .ref)) hD (fun z=>absurd (Value.type.inj z) (by decide)) (by intro _ _ z;contradiction) (fun D=>⟨acc.toList,c',hD,by refine rl hacc ?_;exact VRs.refs⟩) rfl
   exact ⟨.ref _,_,.ref _,S',m.step _ _,q _ z⟩
  | _=>exact q.elim
 | _=>exact q.elim
theorem Zj5 {ns:List Int} {val:Nat→Int}:∀ {k:Nat},k≤ns.length→(∀ i x,ns[i]? = some x→val i=x)→preSum val k=(ns.take k).sum
 | 0,_,_=>by simp [preSum]
 | k+1,hk,h=>by
  have hlt:k<ns.length:=hk
  have e:ns[k]? = some ns[k]:=by simp [hlt]
  rw [preSum,Zj5 (Nat.le_of_lt hlt) h,List.take_add_one,List.sum_append,e,h k _ e]
  show _=_+List.sum [ns[k]]
  simp
theorem VRs.ints {ns:List Int} {vs:List Value} (h:VRs (ns.map .int) vs):∀ (i:Nat) v,vs[i]? = some v→∃ t,v = .int ((ns[i]?).getD 0) t:=by
 intro i v e
 have hl:=h.length
 rw [List.length_map] at hl
 have hi:i<ns.length:=by have:=(List.getElem?_eq_some_iff.mp e).1;lia
 obtain ⟨v',h1,h2⟩:=h.get (i:=i) (a:=.int ns[i]) (by simp [hi])
 rw [e] at h1;obtain rfl:=Option.some.inj h1
 cases h2 with
 | int _ t=>exact ⟨t,by simp [hi]⟩
theorem Zos {ns:List Int}:preSum (fun i=>(ns[i]?).getD 0) ns.length=ns.sum:=by
 exact rl (Zj5 (Nat.le_refl _) (fun i x e=>by simp [e])) (rl List.take_length rfl)
theorem Zzq {p:Addr} {e₀:Env} {l₀:List Env} (ev:Ev g A R e₀ l₀) (S:St g.c R H s.heap) (m:Sm s₀ s) (q:Zdx g.md .sum [.ref p] Q H) :
  wpAny (model g.c.prog g.c.w) A (call (.builtin "sum") [.ref p]) (TQ g R s₀ Q) E s:=by
 rw [Zgg] at q
 obtain ⟨hmd,q⟩:=q
 refine call_sum_walkG ?_
 have hlt:∀ {b o},s.heap.get? b=some o→b≠s.heap.objs.size:=fun e=>Nat.ne_of_lt (lts e)
 obtain ⟨oo,e⟩:∃ oo,H p=oo:=⟨_,rfl⟩
 rw [e] at q
 cases oo with
 | none=>exact q.elim
 | some oo =>
 cases oo with
 | list xs =>
  obtain ⟨ns,rfl,q⟩:=q
  obtain ⟨vs,n,k1,k2,k3⟩:=Zbc S e
  have hl:=k2.length
  rw [List.length_map] at hl
  have W:=Walks.list (prog:=g.c.prog) (w:=g.c.w) (A:=A.in1) (ev.aok.hand hmd) _ _ (hlt k1) vs.toArray
  refine wpAny_pyIter_list k3 ⟨_,_,_,_,_,_,fun i=>(ns[i]?).getD 0,rfl,W,⟨⟨_,Heap.get?_push_size _ rfl,rfl,rfl⟩,k3.push _⟩,fun b hb=>?_,fun i v h=>k2.ints i v (by simpa using h),fun h' tk t' hk=>?_⟩
  ·have:=lts k1
   simp only [List.mem_cons,List.not_mem_nil,or_false] at hb
   rcases hb with rfl | rfl
   ·show _<(Heap.push _ _).objs.size;refine rl (Heap.size_push ..) ?_;exact Nat.lt_succ_self _
   ·show _<(Heap.push _ _).objs.size;refine rl (Heap.size_push ..) ?_;exact Nat.lt_succ_of_lt this
  ·refine rl List.size_toArray (rl hl.symm (rl Zos ?_))
   exact ⟨_,_,.int _ _,S.kept ev fun b o w=>hk b o (by simp only [List.mem_singleton];exact hlt w) (Heap.get?_push_of_some _ w),m.step _ _,q⟩
 | vals d =>
  obtain ⟨oo,e'⟩:∃ oo,H d=oo:=⟨_,rfl⟩
  dsimp only at q
  rw [e'] at q
  cases oo with
  | none=>exact q.elim
  | some oo =>
  cases oo with
  | dict ep es =>
   obtain ⟨ns,hns,q⟩:=q
   obtain ⟨kvs,hd,hr⟩:=Zbk S e'
   have hl:=hr.length
   have hvs:=hr.vals
   rw [hns] at hvs
   have hl2:=hvs.length
   rw [List.length_map,List.length_map] at hl2
   obtain ⟨⟨D,hv⟩,_⟩:=S.orep e
   obtain ⟨od,eo,ho,hrest⟩:=id hd
   have W:=Walks.dictValues (knd:=strKind g.c.prog g.c.w) (A:=A.in1) (ev.aok.hand hmd) _ _ (hlt ho) kvs ep
   refine wpAny_pyIter_values (knd:=strKind g.c.prog g.c.w) (kvs:=kvs) (ep:=ep) ⟨_,hv,rfl,rfl⟩ hd ⟨_,_,_,_,_,_,fun i=>(ns[i]?).getD 0,rfl,W,⟨⟨_,Heap.get?_push_size _ rfl,rfl,rfl⟩,hd.push _⟩,fun b hb=>?_,fun i v h=>?_,fun h' tk t' hk=>?_⟩
   ·have:=lts ho
    simp only [List.mem_cons,List.not_mem_nil,or_false] at hb
    rcases hb with rfl | rfl
    ·show _<(Heap.push _ _).objs.size;refine rl (Heap.size_push ..) ?_;exact Nat.lt_succ_self _
    ·show _<(Heap.push _ _).objs.size;refine rl (Heap.size_push ..) ?_;exact Nat.lt_succ_of_lt this
   ·obtain ⟨k,h⟩:=h
    exact hvs.ints i v (by refine rl (List.getElem?_map) (rl h ?_);rfl)
   ·refine rl hl2.symm (rl Zos ?_)
    exact ⟨_,_,.int _ _,S.kept ev fun b o w=>hk b o (by simp only [List.mem_singleton];exact hlt w) (Heap.get?_push_of_some _ w),m.step _ _,q⟩
  | _=>exact q.elim
 | _=>exact q.elim
theorem VRs.bools {bs:List Bool} {vs:List Value} (h:VRs (bs.map .bool) vs):∀ (i:Nat) v,vs[i]? = some v→v = .bool ((bs[i]?).getD false):=by
 intro i v e
 have hl:=h.length
 rw [List.length_map] at hl
 have hi:i<bs.length:=by have:=(List.getElem?_eq_some_iff.mp e).1;lia
 obtain ⟨v',h1,h2⟩:=h.get (i:=i) (a:=.bool bs[i]) (by simp [hi])
 rw [e] at h1;obtain rfl:=Option.some.inj h1
 cases h2
 simp [hi]
theorem Zwp {bs:List Bool}:(List.range bs.length).all (fun i=>(bs[i]?).getD false)=bs.all id:=by
 rw [Bool.eq_iff_iff,List.all_eq_true,List.all_eq_true]
 constructor
 ·intro h x hx
  obtain ⟨i,hi,rfl⟩:=List.getElem_of_mem hx
  have:=h i (List.mem_range.mpr hi)
  simpa [hi] using this
 ·intro h i hi
  have hi:=List.mem_range.mp hi
  have:=h bs[i] (List.getElem_mem hi)
  simpa [hi] using this
theorem Zzz {p:Addr} {e₀:Env} {l₀:List Env} (ev:Ev g A R e₀ l₀) (S:St g.c R H s.heap) (m:Sm s₀ s) (q:Zdx g.md .all [.ref p] Q H) :
  wpAny (model g.c.prog g.c.w) A (call (.builtin "all") [.ref p]) (TQ g R s₀ Q) E s:=by
 rw [Zid] at q
 obtain ⟨hmd,q⟩:=q
 refine call_all_walk ?_
 obtain ⟨oo,e⟩:∃ oo,H p=oo:=⟨_,rfl⟩
 rw [e] at q
 cases oo with
 | none=>exact q.elim
 | some oo =>
 cases oo with
 | list xs =>
  obtain ⟨bs,rfl,q⟩:=q
  obtain ⟨vs,n,k1,k2,k3⟩:=Zbc S e
  have hl:=k2.length
  rw [List.length_map] at hl
  have W:=Walks.list (prog:=g.c.prog) (w:=g.c.w) (A:=A.in1) (ev.aok.hand hmd) _ _ (Nat.ne_of_lt (lts k1)) vs.toArray
  refine wpAny_pyIter_list k3 ⟨_,_,_,_,_,_,fun i=>(bs[i]?).getD false,rfl,W,⟨⟨_,Heap.get?_push_size _ rfl,rfl,rfl⟩,k3.push _⟩,fun i v s' Q' E' h hq=>?_,fun h' tk hk=>?_⟩
  ·refine rl (k2.bools i v (by simpa using h)) ?_
   exact wpAny_truthy_bool hq
  ·refine rl List.size_toArray (rl hl.symm (rl Zwp ?_))
   exact ⟨_,_,.bool _,S.kept ev fun b o w=>hk b o (by simp only [List.mem_singleton];exact Nat.ne_of_lt (lts w)) (Heap.get?_push_of_some _ w),m.step _ _,q⟩
 | _=>exact q.elim
theorem Zzv {a:AV} {u:Value} {mg mb:Str→Option Value} (C:g.c.Ok mg mb) (hv:VR a u) (S:St g.c R H s.heap) (m:Sm s₀ s) (q:wlen a Q H):wpAny (model g.c.prog g.c.w) A (call (.builtin "len") [u]) (TQ g R s₀ Q) E s:=by
 cases hv with
 | str s' t hs=>exact len_str (by have:=q.1;lia) (TQ.toks (.int _ _) S m q.2)
 | ref p =>
  obtain ⟨oo,e⟩:∃ oo,H p=oo:=⟨_,rfl⟩
  dsimp only [wlen] at q
  rw [e] at q
  cases oo with
  | none=>exact q.elim
  | some oo =>
  cases oo with
  | list xs =>
   obtain ⟨vs,n,k1,k2,k3⟩:=Zbc S e
   have hl:=k2.length
   refine call_len_list k3 (by simp only [List.size_toArray];have:=q.1;lia) (TQ.toks (.int _ _) S m ?_)
   simp only [List.size_toArray];refine rl hl.symm ?_;exact q.2
  | tuple xs =>
   obtain ⟨vs,n,k1,k2,k3⟩:=Zc0 S e
   have hl:=k2.length
   refine PyProof.Rows.len_tuple k3 (by simp only [List.size_toArray];have:=q.1;lia) (TQ.toks (.int _ _) S m ?_)
   simp only [List.size_toArray];refine rl hl.symm ?_;exact q.2
  | dict ep es =>
   obtain ⟨kvs,hd,hr⟩:=Zbk S e
   have hl:=hr.length
   refine call_len_dict (Zio C S e) hd.dictOf (by have:=q.1;lia) (TQ.toks (.int _ _) S m ?_)
   refine rl hl ?_;exact q.2
  | script ns =>
   obtain ⟨⟨D,vs,n,k1,k2⟩,_⟩:=S.orep e
   have hl:=k2.length
   rw [List.length_map] at hl
   refine call_len_list (items:=vs.toArray) ⟨_,k1,rfl,_,rfl⟩ (by simp only [List.size_toArray];have:=q.1;lia) (TQ.toks (.int _ _) S m ?_)
   simp only [List.size_toArray];refine rl hl.symm ?_;exact q.2
  | _=>exact q.elim
 | _=>exact q.elim
theorem Zuq {as:List AV} {vs:List Value} {k:Int→Int→Prop} {m:List Value→Prop} (hv:VRs as vs) (q:wi2 as k) (f:∀ x y t t',k x y→m [.int x t,.int y t']):m vs:=by
 cases hv with
 | nil=>exact q.elim
 | cons h1 hr=>exact Zcz (m:=fun r=>m (_::r)) hr q fun b v h2 q=>Zde (m:=fun u v=>m [u,v]) h1 h2 q f
theorem Zzs {a b:Int} {t u:Tok} (S:St g.c R H s.heap) (m:Sm s₀ s) (q:RgOk a b∧∀ z,H z=none→Q (.ref z) (up H z (.range a b))):wpAny (model g.c.prog g.c.w) A (call (.type "range") [.int a t,.int b u]) (TQ g R s₀ Q) E s:=by
 refine call_range_2 ?_
 obtain ⟨e,S'⟩:=S.newObj (o:=.range _ _) (Nat.le_refl _) (fun _ _ z=>Heap.get?_push_of_some _ z) (by refine rl (Heap.size_push ..) ?_;exact Nat.le_succ _) (by intro _ _ z;contradiction) (fun D=>⟨q.1,_,_,_,Heap.get?_push_size _ rfl⟩)
 exact ⟨_,_,.ref _,S',m.step _ _,q.2 _ e⟩
theorem Zw9 {b:Int} {t:Tok} (S:St g.c R H s.heap) (m:Sm s₀ s) (q:(-(2 ^ 62)<b∧b<2 ^ 62)∧∀ z,H z=none→Q (.ref z) (up H z (.range 0 b))):wpAny (model g.c.prog g.c.w) A (call (.type "range") [.int b t]) (TQ g R s₀ Q) E s:=by
 refine call_range_1 ?_
 obtain ⟨e,S'⟩:=S.newObj (o:=.range 0 _) (Nat.le_refl _) (fun _ _ z=>Heap.get?_push_of_some _ z) (by refine rl (Heap.size_push ..) ?_;exact Nat.le_succ _) (by intro _ _ z;contradiction) (fun D=>⟨⟨by decide,by decide,q.1.1,q.1.2⟩,_,_,_,Heap.get?_push_size _ rfl⟩)
 exact ⟨_,_,.ref _,S',m.step _ _,q.2 _ e⟩
set_option tactic.hygienic true in
theorem Zxa {f:Pr} {as:List AV} {vs:List Value} {e₀:Env} {l₀:List Env} {mg mb:Str→Option Value} (C:g.c.Ok mg mb) (ev:Ev g A R e₀ l₀) (hv:VRs as vs) (S:St g.c R H s.heap) (m:Sm s₀ s) (q:Zdx g.md f as Q H) :
  wpAny (model g.c.prog g.c.w) A (call (Zi7 f) vs) (TQ g R s₀ Q) E s:=by
 cases f with
 | len=>exact Zcz (m:=fun vs=>wpAny _ A (call (.builtin "len") vs) (TQ g R s₀ Q) E s) hv q fun a v h q=>Zzv C h S m q
 | list =>
  refine Zcz (m:=fun vs=>wpAny _ A (call (.type "list") vs) (TQ g R s₀ Q) E s) hv q fun a v h q=>?_
  cases h with
  | ref p=>exact Zu7 C ev S m q
  | _=>exact q.elim
 | int =>
  refine Zcz (m:=fun vs=>wpAny _ A (call (.type "int") vs) (TQ g R s₀ Q) E s) hv q fun a v h q=>?_
  cases h with
  | bool b=>exact call_int_bool (TQ.toks (.int _ _) S m q)
  | _=>exact q.elim
 | range =>
  cases hv with
  | nil=>exact q.elim
  | cons h1 hr=>cases hr with
   | nil=>cases h1 with
    | int b t=>exact Zw9 S m q
    | _=>exact q.elim
   | cons h2 hr =>
    have q:onV1 (_::_) (fun b=>wii _ b fun a b=>RgOk a b∧∀ z,H z=none→Q (.ref z) (up H z (.range a b))):=q
    exact Zcz (m:=fun r=>wpAny _ A (call (.type "range") (_::r)) (TQ g R s₀ Q) E s) (.cons h2 hr) q fun b v h2 q=>Zde (m:=fun u v=>wpAny _ A (call (.type "range") [u,v]) (TQ g R s₀ Q) E s) h1 h2 q fun _ _ _ _ q=>Zzs S m q
 | sum =>
  refine Zcz (m:=fun vs=>wpAny _ A (call (.builtin "sum") vs) (TQ g R s₀ Q) E s) hv q fun a v h q=>?_
  cases h with
  | ref p=>exact Zzq ev S m q
  | _=>exact q.2.elim
 | all =>
  refine Zcz (m:=fun vs=>wpAny _ A (call (.builtin "all") vs) (TQ g R s₀ Q) E s) hv q fun a v h q=>?_
  cases h with
  | ref p=>exact Zzz ev S m q
  | _=>exact q.2.elim
 | min =>
  refine Zuq (m:=fun vs=>wpAny _ A (call (.builtin "min") vs) (TQ g R s₀ Q) E s) hv q fun x y t t' q=>?_
  refine min_two_ints (ev.aok.hand q.1) fun h' tk hk=>?_
  have q:=q.2
  split
  ·rename_i z;rw [if_pos z] at q;exact ⟨_,_,.int _ _,S.kept ev hk,m.step _ _,q⟩
  ·rename_i z;rw [if_neg z] at q;exact ⟨_,_,.int _ _,S.kept ev hk,m.step _ _,q⟩
 | _=>exact q.elim
theorem Zr8 {p:Addr} {v:AV} {u:Value} {xs:List AV} (hv:VR v u) (S:St g.c R H s.heap) (m:Sm s₀ s) (e:H p=some (.list xs)) (hz:xs.length≤sizeLine) (q:Q .none (up H p (.list (xs++[v])))) :
  wpAny (model g.c.prog g.c.w) A (call (.builtin "list.append") [.ref p,u]) (TQ g R s₀ Q) E s:=by
 obtain ⟨vs,n,k1,k2,k3⟩:=Zbc S e
 refine append_at k1 (fun h' hs ho=>?_) (by simp only [List.size_toArray];refine rl k2.length.symm ?_;exact hz)
 refine ⟨.none,_,.none,S.setObj (o':=.list (xs++[v])) e (by intro _ _ z;contradiction) hs (fun D=>⟨vs++[u],n+1,?_,k2.append (.one hv)⟩),m.heap _,q⟩
 refine rl ho ?_;simp
end
end Mine
end
section
namespace Mine
theorem dn {c:Prop} [d:Decidable c] {k:c→Bool} (h:(if h:c then k h else false)=true):∃ q,k q=true :=
 match d,h with
 | .isTrue q,h=>⟨q,h⟩
 | .isFalse _,h=>Bool.noConfusion h
theorem and2 {a b:Bool} (h:(a&&b)=true):a=true∧b=true:=match a,h with
 | true,h=>⟨rfl,h⟩
 | false,h=>Bool.noConfusion h
noncomputable def Zub (e:Expr) (k:PySem.BoolOp→List Expr→Pos→Bool):Bool:=if h:e.ctorIdx=0 then Expr.BoolOp.elim (motive_1:=fun _=>Bool) e h k else false
theorem Znu {m:Expr→Prop} {e:Expr} {k:PySem.BoolOp→List Expr→Pos→Bool} (h:Zub e k=true) (f:∀ o vs p,k o vs p=true→m (.BoolOp o vs p)):m e :=
 (dn h).elim fun q z=>Expr.BoolOp.elim (motive_1:=fun e=>∀ q,Expr.BoolOp.elim (motive_1:=fun _=>Bool) e q k=true→m e) e q (fun o vs p _ z=>f o vs p z) q z
noncomputable def Zxr (e:Expr) (k:Expr→Operator→Expr→Pos→Bool):Bool:=if h:e.ctorIdx=2 then Expr.BinOp.elim (motive_1:=fun _=>Bool) e h k else false
theorem Zps {m:Expr→Prop} {e:Expr} {k:Expr→Operator→Expr→Pos→Bool} (h:Zxr e k=true) (f:∀ l o r p,k l o r p=true→m (.BinOp l o r p)):m e :=
 (dn h).elim fun q z=>Expr.BinOp.elim (motive_1:=fun e=>∀ q,Expr.BinOp.elim (motive_1:=fun _=>Bool) e q k=true→m e) e q (fun l o r p _ z=>f l o r p z) q z
noncomputable def onUn (e:Expr) (k:PySem.UnaryOp→Expr→Pos→Bool):Bool:=if h:e.ctorIdx=3 then Expr.UnaryOp.elim (motive_1:=fun _=>Bool) e h k else false
theorem Zml {m:Expr→Prop} {e:Expr} {k:PySem.UnaryOp→Expr→Pos→Bool} (h:onUn e k=true) (f:∀ o x p,k o x p=true→m (.UnaryOp o x p)):m e :=
 (dn h).elim fun q z=>Expr.UnaryOp.elim (motive_1:=fun e=>∀ q,Expr.UnaryOp.elim (motive_1:=fun _=>Bool) e q k=true→m e) e q (fun o x p _ z=>f o x p z) q z
noncomputable def onIf (e:Expr) (k:Expr→Expr→Expr→Pos→Bool):Bool:=if h:e.ctorIdx=5 then Expr.IfExp.elim (motive_1:=fun _=>Bool) e h k else false
theorem Zsp {m:Expr→Prop} {e:Expr} {k:Expr→Expr→Expr→Pos→Bool} (h:onIf e k=true) (f:∀ t x y p,k t x y p=true→m (.IfExp t x y p)):m e :=
 (dn h).elim fun q z=>Expr.IfExp.elim (motive_1:=fun e=>∀ q,Expr.IfExp.elim (motive_1:=fun _=>Bool) e q k=true→m e) e q (fun t x y p _ z=>f t x y p z) q z
noncomputable def Zua (e:Expr) (k:List (Option Expr)→List Expr→Pos→Bool):Bool:=if h:e.ctorIdx=6 then Expr.Dict.elim (motive_1:=fun _=>Bool) e h k else false
theorem Zdd {m:Expr→Prop} {e:Expr} {k:List (Option Expr)→List Expr→Pos→Bool} (h:Zua e k=true) (f:∀ ks vs p,k ks vs p=true→m (.Dict ks vs p)):m e :=
 (dn h).elim fun q z=>Expr.Dict.elim (motive_1:=fun e=>∀ q,Expr.Dict.elim (motive_1:=fun _=>Bool) e q k=true→m e) e q (fun ks vs p _ z=>f ks vs p z) q z
noncomputable def onLC (e:Expr) (k:Expr→List Comprehension→Scope→Pos→Bool):Bool:=if h:e.ctorIdx=8 then Expr.ListComp.elim (motive_1:=fun _=>Bool) e h k else false
theorem Zso {m:Expr→Prop} {e:Expr} {k:Expr→List Comprehension→Scope→Pos→Bool} (h:onLC e k=true) (f:∀ x gs cs p,k x gs cs p=true→m (.ListComp x gs cs p)):m e :=
 (dn h).elim fun q z=>Expr.ListComp.elim (motive_1:=fun e=>∀ q,Expr.ListComp.elim (motive_1:=fun _=>Bool) e q k=true→m e) e q (fun x gs cs p _ z=>f x gs cs p z) q z
noncomputable def Zvi (e:Expr) (k:Expr→List CmpOp→List Expr→Pos→Bool):Bool:=if h:e.ctorIdx=15 then Expr.Compare.elim (motive_1:=fun _=>Bool) e h k else false
theorem Zkb {m:Expr→Prop} {e:Expr} {k:Expr→List CmpOp→List Expr→Pos→Bool} (h:Zvi e k=true) (f:∀ l os rs p,k l os rs p=true→m (.Compare l os rs p)):m e :=
 (dn h).elim fun q z=>Expr.Compare.elim (motive_1:=fun e=>∀ q,Expr.Compare.elim (motive_1:=fun _=>Bool) e q k=true→m e) e q (fun l os rs p _ z=>f l os rs p z) q z
noncomputable def Zkc (e:Expr) (k:Expr→List Expr→List Keyword→Pos→Bool):Bool:=if h:e.ctorIdx=16 then Expr.Call.elim (motive_1:=fun _=>Bool) e h k else false
theorem Zf5 {m:Expr→Prop} {e:Expr} {k:Expr→List Expr→List Keyword→Pos→Bool} (h:Zkc e k=true) (f:∀ fe as ks p,k fe as ks p=true→m (.Call fe as ks p)):m e :=
 (dn h).elim fun q z=>Expr.Call.elim (motive_1:=fun e=>∀ q,Expr.Call.elim (motive_1:=fun _=>Bool) e q k=true→m e) e q (fun fe as ks p _ z=>f fe as ks p z) q z
noncomputable def Zpr (e:Expr) (k:Const→Nat→Pos→Bool):Bool:=if h:e.ctorIdx=19 then Expr.Constant.elim (motive_1:=fun _=>Bool) e h k else false
theorem Zhk {m:Expr→Prop} {e:Expr} {k:Const→Nat→Pos→Bool} (h:Zpr e k=true) (f:∀ c kd p,k c kd p=true→m (.Constant c kd p)):m e :=
 (dn h).elim fun q z=>Expr.Constant.elim (motive_1:=fun e=>∀ q,Expr.Constant.elim (motive_1:=fun _=>Bool) e q k=true→m e) e q (fun c kd p _ z=>f c kd p z) q z
noncomputable def Zif (e:Expr) (k:Expr→Str→Pos→Bool):Bool:=if h:e.ctorIdx=20 then Expr.Attribute.elim (motive_1:=fun _=>Bool) e h k else false
theorem Zez {m:Expr→Prop} {e:Expr} {k:Expr→Str→Pos→Bool} (h:Zif e k=true) (f:∀ v a p,k v a p=true→m (.Attribute v a p)):m e :=
 (dn h).elim fun q z=>Expr.Attribute.elim (motive_1:=fun e=>∀ q,Expr.Attribute.elim (motive_1:=fun _=>Bool) e q k=true→m e) e q (fun v a p _ z=>f v a p z) q z
noncomputable def Zsn (e:Expr) (k:Expr→Expr→Pos→Bool):Bool:=if h:e.ctorIdx=21 then Expr.Subscript.elim (motive_1:=fun _=>Bool) e h k else false
theorem Zka {m:Expr→Prop} {e:Expr} {k:Expr→Expr→Pos→Bool} (h:Zsn e k=true) (f:∀ v i p,k v i p=true→m (.Subscript v i p)):m e :=
 (dn h).elim fun q z=>Expr.Subscript.elim (motive_1:=fun e=>∀ q,Expr.Subscript.elim (motive_1:=fun _=>Bool) e q k=true→m e) e q (fun v i p _ z=>f v i p z) q z
noncomputable def Zie (e:Expr) (k:Str→Pos→Bool):Bool:=if h:e.ctorIdx=23 then Expr.Name.elim (motive_1:=fun _=>Bool) e h k else false
theorem Zb8 {m:Expr→Prop} {e:Expr} {k:Str→Pos→Bool} (h:Zie e k=true) (f:∀ n p,k n p=true→m (.Name n p)):m e :=
 (dn h).elim fun q z=>Expr.Name.elim (motive_1:=fun e=>∀ q,Expr.Name.elim (motive_1:=fun _=>Bool) e q k=true→m e) e q (fun n p _ z=>f n p z) q z
noncomputable def Zt7 (e:Expr) (k:List Expr→Pos→Bool):Bool:=if h:e.ctorIdx=24 then Expr.List.elim (motive_1:=fun _=>Bool) e h k else false
theorem Znr {m:Expr→Prop} {e:Expr} {k:List Expr→Pos→Bool} (h:Zt7 e k=true) (f:∀ es p,k es p=true→m (.List es p)):m e :=
 (dn h).elim fun q z=>Expr.List.elim (motive_1:=fun e=>∀ q,Expr.List.elim (motive_1:=fun _=>Bool) e q k=true→m e) e q (fun es p _ z=>f es p z) q z
noncomputable def Zsm (e:Expr) (k:List Expr→Nat→Pos→Bool):Bool:=if h:e.ctorIdx=25 then Expr.Tuple.elim (motive_1:=fun _=>Bool) e h k else false
theorem Zhi {m:Expr→Prop} {e:Expr} {k:List Expr→Nat→Pos→Bool} (h:Zsm e k=true) (f:∀ es kd p,k es kd p=true→m (.Tuple es kd p)):m e :=
 (dn h).elim fun q z=>Expr.Tuple.elim (motive_1:=fun e=>∀ q,Expr.Tuple.elim (motive_1:=fun _=>Bool) e q k=true→m e) e q (fun es kd p _ z=>f es kd p z) q z
noncomputable def Zpm (e:Expr) (k:Option Expr→Option Expr→Option Expr→Pos→Bool):Bool:=if h:e.ctorIdx=26 then Expr.Slice.elim (motive_1:=fun _=>Bool) e h k else false
theorem Zln {m:Expr→Prop} {e:Expr} {k:Option Expr→Option Expr→Option Expr→Pos→Bool} (h:Zpm e k=true) (f:∀ l u t p,k l u t p=true→m (.Slice l u t p)):m e :=
 (dn h).elim fun q z=>Expr.Slice.elim (motive_1:=fun e=>∀ q,Expr.Slice.elim (motive_1:=fun _=>Bool) e q k=true→m e) e q (fun l u t p _ z=>f l u t p z) q z
section
variable {α:Type}
noncomputable def onC (l:List α) (k:α→List α→Bool):Bool:=match l with
 | []=>false
 | x::r=>k x r
theorem Zdk {m:List α→Prop} {l:List α} {k:α→List α→Bool} (h:onC l k=true) (f:∀ x r,k x r=true→m (x::r)):m l:=match l,h with
 | [],h=>Bool.noConfusion h
 | x::r,h=>f x r h
theorem Zb4 {m:List α→Prop} {l:List α} (h:l.isEmpty=true) (f:m []):m l:=match l,h with
 | [],_=>f
 | _::_,h=>Bool.noConfusion h
noncomputable def on1 (l:List α) (k:α→Bool):Bool:=onC l fun x r=>r.isEmpty&&k x
theorem Zfb {m:List α→Prop} {l:List α} {k:α→Bool} (h:on1 l k=true) (f:∀ x,k x=true→m [x]):m l :=
 Zdk h fun x _ h=>Zb4 (m:=fun r=>m (x::r)) (and2 h).1 (f x (and2 h).2)
noncomputable def on2 (l:List α) (k:α→α→Bool):Bool:=onC l fun x r=>on1 r (k x)
theorem Zlp {m:List α→Prop} {l:List α} {k:α→α→Bool} (h:on2 l k=true) (f:∀ x y,k x y=true→m [x,y]):m l :=
 Zdk h fun x _ h=>Zfb (m:=fun r=>m (x::r)) h (f x)
noncomputable def Zhj (o:Option α) (k:α→Bool):Bool:=match o with
 | none=>false
 | some x=>k x
theorem Zey {m:Option α→Prop} {o:Option α} {k:α→Bool} (h:Zhj o k=true) (f:∀ x,k x=true→m (some x)):m o:=match o,h with
 | none,h=>Bool.noConfusion h
 | some x,h=>f x h
end
noncomputable def Zij (sc:Scope) (id:Str):Bool:=match sc.names.lookup id with
 | some .local=>true
 | some .cell=>true
 | some .free=>true
 | _=>false
noncomputable def Zqe (sc:Scope) (id:Str):Bool:=sc.names.lookup id==some .globalImplicit
noncomputable def Zd0 (id:Str):Bool:=!(id==("__debug__":Str))&&!(id==("__classdict__":Str))
noncomputable def Zf1 (e:Expr):Bool:=e.ctorIdx != 16||Zkc e fun f _ _ _=>Zif f fun _ _ _=>true
noncomputable def Zhl (e:Expr):Bool:=e.ctorIdx != 26
noncomputable def Zc2 (e:Expr):Bool:=e.ctorIdx != 22
noncomputable def Zby (sc:Scope) (n:String) (e:Expr):Bool:=Zie e fun id _=>id==Str.ofString n&&Zqe sc id&&Zd0 id
noncomputable def Zig (e:Expr):Bool:=e.ctorIdx != 7
noncomputable def isLC (e:Expr):Bool:=e.ctorIdx==8
noncomputable def Zx9 (v:AV) (cc:Const):Bool:=match v with
 | .none=>cc==.none
 | .bool a=>cc==.bool a
 | .int a=>cc==.int a
 | .str a=>cc==.str a&&PyData.strOk a
 | .ref _=>false
noncomputable def Zqf (e:X):Bool:=e.ctorIdx==(X.comp (.var 0) 0 false (.var 0) none).ctorIdx
noncomputable def Zdw (nm:List Str) (ts:List Str):List Str:=nm.map fun x=>if ts.contains x then ⟨#[]⟩ else x
noncomputable def Zda:List Expr→List Str→Bool
 | [],ts=>ts.isEmpty
 | e::r,ts=>onC ts fun t q=>(Zie e fun id _=>id==t)&&Zda r q
noncomputable def Zx0 (e:Expr):Str:=if h:e.ctorIdx=23 then Expr.Name.elim (motive_1:=fun _=>Str) e h (fun n _=>n) else ⟨#[]⟩
inductive TgN:Expr→Bool→List Str→Prop
 | name {t p}:TgN (.Name t p) false [t]
 | tup {es k p ts}:Zda es ts=true→TgN (.Tuple es k p) true ts
noncomputable def Zcp (sc csc:Scope) (nm ts:List Str):Bool :=
 csc.kind==.function&&ts.all (fun t=>csc.names.lookup t==some .local&&t.length != 0&&Zd0 t)&&decide ts.Nodup&&!nm.contains (Str.ofString ".0") &&
 csc.names.all (fun p=>p.2 != .cell&&(p.2 != .local||(csc.names.lookup p.1==some .local&&(ts.contains p.1||p.1==Str.ofString ".0")))&&(p.2 != .free||(sc.names.lookup p.1==some .cell&&nm.contains p.1&&csc.names.lookup p.1==some .free))&&p.1.length != 0)
abbrev EB:=Expr→Bool
section
variable {m:Expr→Prop} {e:Expr} {sc:Scope} {nm:List Str} {a b c d i:EB} {xs:List Expr→Bool}
theorem Zmm {n:String} (h:Zby sc n e=true) (f:∀ id p,Zby sc n (.Name id p)=true→m (.Name id p)):m e:=Zb8 h f
noncomputable def mLit (v:AV) (e:Expr):Bool:=Zpr e fun cc _ _=>Zx9 v cc
noncomputable def mVar (sc:Scope) (nm:List Str) (i:Nat) (e:Expr):Bool:=Zie e fun id _=>nm[i]?==some id&&Zij sc id&&Zd0 id
theorem Zsu {i:Nat} (h:mVar sc nm i e=true) (f:∀ id p,nm[i]? = some id→Zij sc id=true→Zd0 id=true→m (.Name id p)):m e :=
 Zb8 h fun id p h=>have h2:=and2 h;have h1:=and2 h2.1;f id p (eq_of_beq h1.1) h1.2 h2.2
noncomputable def mBin (op:Operator) (a b:EB) (e:Expr):Bool:=Zxr e fun l op' r _=>op'==op&&a l&&b r
theorem Zs1 {op:Operator} (h:mBin op a b e=true) (f:∀ l r p,a l=true→b r=true→m (.BinOp l op r p)):m e :=
 Zps h fun l _ r p h=>have h2:=and2 h;have h1:=and2 h2.1;eq_of_beq h1.1▸f l r p h1.2 h2.2
noncomputable def mNeg (a:EB) (e:Expr):Bool:=onUn e fun o x _=>o==.USub&&a x
theorem Zsx (h:mNeg a e=true) (f:∀ x p,a x=true→m (.UnaryOp .USub x p)):m e :=
 Zml h fun _ x p h=>eq_of_beq (and2 h).1▸f x p (and2 h).2
noncomputable def mNot (a:EB) (e:Expr):Bool:=onUn e fun o x _=>o==.Not&&a x
theorem Zsw (h:mNot a e=true) (f:∀ x p,a x=true→m (.UnaryOp .Not x p)):m e :=
 Zml h fun _ x p h=>eq_of_beq (and2 h).1▸f x p (and2 h).2
noncomputable def mAo (isAnd:Bool) (xs:List Expr→Bool) (e:Expr):Bool:=Zub e fun op vs _=>(op==(if isAnd then PySem.BoolOp.And else PySem.BoolOp.Or))&&xs vs
theorem Zvs {isAnd:Bool} (h:mAo isAnd xs e=true) (f:∀ vs p,xs vs=true→m (.BoolOp (if isAnd then PySem.BoolOp.And else PySem.BoolOp.Or) vs p)):m e :=
 Znu h fun _ vs p h=>eq_of_beq (and2 h).1▸f vs p (and2 h).2
noncomputable def mIte (c a b:EB) (e:Expr):Bool:=onIf e fun t x y _=>c t&&a x&&b y
theorem Zsy (h:mIte c a b e=true) (f:∀ t x y p,c t=true→a x=true→b y=true→m (.IfExp t x y p)):m e :=
 Zsp h fun t x y p h=>have h2:=and2 h;have h1:=and2 h2.1;f t x y p h1.1 h1.2 h2.2
noncomputable def mCmp (op:CmpOp) (a b:EB) (e:Expr):Bool:=Zvi e fun l os rs _=>on1 os fun op'=>on1 rs fun r=>op'==op&&!behindInMarks op' r&&a l&&b r
theorem not1 {b:Bool} (h:(!b)=true):b=false:=match b,h with
 | false,_=>rfl
 | true,h=>Bool.noConfusion h
theorem Zs0 {op:CmpOp} (h:mCmp op a b e=true) (f:∀ l r p,behindInMarks op r=false→a l=true→b r=true→m (.Compare l [op] [r] p)):m e :=
 Zkb h fun l os rs p h=>Zfb (m:=fun os=>m (.Compare l os rs p)) h fun o h=>Zfb (m:=fun rs=>m (.Compare l [o] rs p)) h fun r h =>
  have h2:=and2 h;have h1:=and2 h2.1;have h0:=and2 h1.1;eq_of_beq h0.1▸f l r p (eq_of_beq h0.1▸not1 h0.2) h1.2 h2.2
noncomputable def Zx5 (op1 op2:CmpOp) (a b d:EB) (e:Expr):Bool:=Zvi e fun l os rs _=>on2 os fun o₁ o₂=>on2 rs fun r₁ r₂=>(o₁==op1&&o₂==op2)&&(!lastMarks [op1,op2] [r₁,r₂]&&a l&&b r₁&&d r₂)
theorem Zp4 {op1 op2:CmpOp} (h:Zx5 op1 op2 a b d e=true) (f:∀ l r₁ r₂ p,lastMarks [op1,op2] [r₁,r₂]=false→a l=true→b r₁=true→d r₂=true→m (.Compare l [op1,op2] [r₁,r₂] p)):m e :=
 Zkb h fun l os rs p h=>Zlp (m:=fun os=>m (.Compare l os rs p)) h fun o₁ o₂ h=>Zlp (m:=fun rs=>m (.Compare l [o₁,o₂] rs p)) h fun r₁ r₂ h =>
  have h4:=and2 h;have h3:=and2 h4.2;have h2:=and2 h3.1;have h1:=and2 h2.1;eq_of_beq (and2 h4.1).1▸eq_of_beq (and2 h4.1).2▸f l r₁ r₂ p (not1 h1.1) h1.2 h2.2 h3.2
noncomputable def mSub (a i:EB) (e:Expr):Bool:=Zsn e fun v sl _=>Zhl sl&&a v&&i sl
theorem Zmo (h:mSub a i e=true) (f:∀ v sl p,Zhl sl=true→a v=true→i sl=true→m (.Subscript v sl p)):m e :=
 Zka h fun v sl p h=>have h2:=and2 h;have h1:=and2 h2.1;f v sl p h1.1 h1.2 h2.2
noncomputable def Zui (a:EB) (lo hi st:Option Expr→Bool) (e:Expr):Bool:=Zsn e fun v sl _=>Zpm sl fun l u t _=>a v&&lo l&&hi u&&st t
theorem Zn0 {lo hi st:Option Expr→Bool} (h:Zui a lo hi st e=true) (f:∀ v l u t p q,a v=true→lo l=true→hi u=true→st t=true→m (.Subscript v (.Slice l u t p) q)):m e :=
 Zka h fun v sl q h=>Zln (m:=fun sl=>m (.Subscript v sl q)) h fun l u t p h=>have h3:=and2 h;have h2:=and2 h3.1;have h1:=and2 h2.1;f v l u t p q h1.1 h1.2 h2.2 h3.2
noncomputable def Zx6 (a:EB) (n:String) (e:Expr):Bool:=Zif e fun v at' _=>at'==Str.ofString n&&Zf1 v&&a v
theorem Zp6 {n:String} (h:Zx6 a n e=true) (f:∀ v p,Zf1 v=true→a v=true→m (.Attribute v (Str.ofString n) p)):m e :=
 Zez h fun v _ p h=>have h2:=and2 h;have h1:=and2 h2.1;eq_of_beq h1.1▸f v p h1.2 h2.2
noncomputable def Zp5 (sc:Scope) (ok:Bool) (f:String) (xs:List Expr→Bool) (e:Expr):Bool:=Zkc e fun fe args ks _=>ks.isEmpty&&Zby sc f fe&&ok&&xs args
theorem Zfv {ok:Bool} {n:String} (h:Zp5 sc ok n xs e=true) (f:∀ fe args p,Zby sc n fe=true→ok=true→xs args=true→m (.Call fe args [] p)):m e :=
 Zf5 h fun fe args _ p h=>have h3:=and2 h;have h2:=and2 h3.1;have h1:=and2 h2.1;Zb4 (m:=fun ks=>m (.Call fe args ks p)) h1.1 (f fe args p h1.2 h2.2 h3.2)
noncomputable def Zvq (n:String) (a:EB) (xs:List Expr→Bool) (e:Expr):Bool:=Zkc e fun fe args ks pos=>Zif fe fun o name apos=>(ks.isEmpty&&name==Str.ofString n)&&((apos.endLine==pos.line)&&Zf1 o&&decide (args.length<29)&&a o&&xs args)
theorem Zkh {n:String} (h:Zvq n a xs e=true) (f:∀ o apos args pos,(apos.endLine==pos.line)=true→Zf1 o=true→args.length<29→a o=true→xs args=true→m (.Call (.Attribute o (Str.ofString n) apos) args [] pos)):m e :=
 Zf5 h fun fe args ks pos h=>Zez (m:=fun fe=>m (.Call fe args ks pos)) h fun o _ apos h =>
  have h5:=and2 h;have h0:=and2 h5.1;have h4:=and2 h5.2;have h3:=and2 h4.1;have h2:=and2 h3.1;have h1:=and2 h2.1
  eq_of_beq h0.2▸Zb4 (m:=fun ks=>m (.Call (.Attribute o _ apos) args ks pos)) h0.1 (eq_of_beq h0.2▸f o apos args pos h1.1 h1.2 (of_decide_eq_true h2.2) h3.2 h4.2)
noncomputable def mIsi (P:Pg) (sc:Scope) (a:EB) (ty:String) (e:Expr):Bool:=Zkc e fun fe args ks _=>on2 args fun x t=>(ks.isEmpty&&Zc2 x)&&(Zby sc "isinstance" fe&&P.prims.contains "isinstance"&&(P.prims.contains ty||(P.excs.lookup ty).isSome)&&Zby sc ty t&&a x)
theorem Zsz {P:Pg} {ty:String} (h:mIsi P sc a ty e=true) (f:∀ fe x t p,Zc2 x=true→Zby sc "isinstance" fe=true→P.prims.contains "isinstance" = true→(P.prims.contains ty||(P.excs.lookup ty).isSome)=true→Zby sc ty t=true→a x=true→m (.Call fe [x,t] [] p)):m e :=
 Zf5 h fun fe args ks p h=>Zlp (m:=fun args=>m (.Call fe args ks p)) h fun x t h =>
  have h5:=and2 h;have h0:=and2 h5.1;have h4:=and2 h5.2;have h3:=and2 h4.1;have h2:=and2 h3.1;have h1:=and2 h2.1
  Zb4 (m:=fun ks=>m (.Call fe [x,t] ks p)) h0.1 (f fe x t p h0.2 h1.1 h1.2 h2.2 h3.2 h4.2)
noncomputable def Zx3 (xs:List Expr→Bool) (e:Expr):Bool:=Zt7 e fun es _=>xs es&&decide (es.length<1000)
theorem Zp3 (h:Zx3 xs e=true) (f:∀ es p,xs es=true→es.length<1000→m (.List es p)):m e :=
 Znr h fun es p h=>f es p (and2 h).1 (of_decide_eq_true (and2 h).2)
noncomputable def mTup (xs:List Expr→Bool) (e:Expr):Bool:=Zsm e fun es _ _=>xs es&&decide (es.length<1000)
theorem Zsv (h:mTup xs e=true) (f:∀ es k p,xs es=true→es.length<1000→m (.Tuple es k p)):m e :=
 Zhi h fun es k p h=>f es k p (and2 h).1 (of_decide_eq_true (and2 h).2)
noncomputable def Zvr (ks vs:List X) (mk:List (Option Expr)→Bool) (mv:List Expr→Bool) (e:Expr):Bool:=Zua e fun ks' vs' _=>match ks,vs with
 | [],[]=>ks'.isEmpty&&vs'.isEmpty
 | [_],[_]=>mk ks'&&mv vs'
 | _,_=>false
theorem Zn2 {mk:List (Option Expr)→Bool} {mv:List Expr→Bool} (h:Zvr [] [] mk mv e=true) (f:∀ p,m (.Dict [] [] p)):m e :=
 Zdd h fun ks vs p h=>Zb4 (m:=fun ks=>m (.Dict ks vs p)) (and2 h).1 (Zb4 (m:=fun vs=>m (.Dict [] vs p)) (and2 h).2 (f p))
theorem Zn1 {k v:X} {mk:List (Option Expr)→Bool} {mv:List Expr→Bool} (h:Zvr [k] [v] mk mv e=true) (f:∀ ks vs p,mk ks=true→mv vs=true→m (.Dict ks vs p)):m e :=
 Zdd h fun ks vs p h=>f ks vs p (and2 h).1 (and2 h).2
noncomputable def goOk (k:Nat) (sc csc:Scope) (nm:List Str) (it:EB) (x:Scope→List Str→EB) (c:Scope→List Str→List Expr→Bool) (elt iter:Expr) (ifs:List Expr) (ia:Int) (ts:List Str):Bool :=
 (ia==0&&k==ts.length)&&(Zig iter&&it iter&&Zcp sc csc nm ts&&x csc (Zdw nm ts++ts) elt&&c csc (Zdw nm ts++ts) ifs)
noncomputable def Zx4 (top tup:Bool) (k:Nat) (sc:Scope) (nm:List Str) (it:EB) (x:Scope→List Str→EB) (c:Scope→List Str→List Expr→Bool) (e:Expr):Bool:=top&&(onLC e fun elt gs csc _=>on1 gs fun g =>
 match tup with
 | false=>Zie g.target fun t _=>goOk k sc csc nm it x c elt g.iter g.ifs g.is_async [t]
 | true=>Zsm g.target fun es _ _=>Zda es (es.map Zx0)&&goOk k sc csc nm it x c elt g.iter g.ifs g.is_async (es.map Zx0))
structure Zup (k:Nat) (sc csc:Scope) (nm ts:List Str) (it:EB) (x:Scope→List Str→EB) (c:Scope→List Str→List Expr→Bool) (elt iter:Expr) (ifs:List Expr):Prop where
 len:k=ts.length
 set:Zig iter=true
 it:it iter=true
 sc:Zcp sc csc nm ts=true
 x:x csc (Zdw nm ts++ts) elt=true
 c:c csc (Zdw nm ts++ts) ifs=true
theorem Zmw {tup:Bool} {k:Nat} {it:EB} {x:Scope→List Str→EB} {c:Scope→List Str→List Expr→Bool} {csc:Scope} {elt tg iter:Expr} {ifs:List Expr} {ia:Int} {p:Pos} {ts:List Str}
  (f:∀ elt tg iter ifs csc ts p,TgN tg tup ts→Zup k sc csc nm ts it x c elt iter ifs→m (.ListComp elt [⟨tg,iter,ifs,0⟩] csc p)) (ht:TgN tg tup ts) (h:goOk k sc csc nm it x c elt iter ifs ia ts=true):m (.ListComp elt [⟨tg,iter,ifs,ia⟩] csc p) :=
 have h5:=and2 h;have h0:=and2 h5.1;have h4:=and2 h5.2;have h3:=and2 h4.1;have h2:=and2 h3.1;have h1:=and2 h2.1
 eq_of_beq h0.1▸f elt tg iter ifs csc ts p ht ⟨eq_of_beq h0.2,h1.1,h1.2,h2.2,h3.2,h4.2⟩
theorem Zki {top tup:Bool} {k:Nat} {it:EB} {x:Scope→List Str→EB} {c:Scope→List Str→List Expr→Bool} (h:Zx4 top tup k sc nm it x c e=true)
  (f:∀ elt tg iter ifs csc ts p,TgN tg tup ts→Zup k sc csc nm ts it x c elt iter ifs→m (.ListComp elt [⟨tg,iter,ifs,0⟩] csc p)):m e:=by
 refine Zso (and2 h).2 fun elt gs csc p h=>Zfb (m:=fun gs=>m (.ListComp elt gs csc p)) h fun G h=>?_
 cases G with
 | mk tg iter ifs ia =>
 cases tup with
 | false=>exact Zb8 (m:=fun tg=>m (.ListComp elt [⟨tg,iter,ifs,ia⟩] csc p)) h fun _ _ h=>Zmw f .name h
 | true=>exact Zhi (m:=fun tg=>m (.ListComp elt [⟨tg,iter,ifs,ia⟩] csc p)) h fun _ _ _ h=>Zmw f (.tup (and2 h).1) (and2 h).2
end
mutual
noncomputable def mtX (P:Pg) (top:Bool) (sc:Scope) (nm:List Str):X→Expr→Bool
 | .lit v,e=>mLit v e
 | .var i,e=>mVar sc nm i e
 | .glob n,e=>Zby sc n e
 | .bin op a b,e=>mBin op (mtX P top sc nm a) (mtX P top sc nm b) e
 | .neg a,e=>mNeg (mtX P top sc nm a) e
 | .not a,e=>mNot (mtX P top sc nm a) e
 | .ao isAnd xs,e=>mAo isAnd (mtXs P top sc nm xs) e
 | .ite c a b,e=>mIte (mtX P top sc nm c) (mtX P top sc nm a) (mtX P top sc nm b) e
 | .cmp op a b,e=>mCmp op (mtX P top sc nm a) (mtX P top sc nm b) e
 | .cmp2 op1 op2 a b d,e=>Zx5 op1 op2 (mtX P top sc nm a) (mtX P top sc nm b) (mtX P top sc nm d) e
 | .sub a i,e=>mSub (mtX P top sc nm a) (mtX P top sc nm i) e
 | .slice a lo hi st,e=>Zui (mtX P top sc nm a) (mtO P top sc nm lo) (mtO P top sc nm hi) (mtO P top sc nm st) e
 | .attr a n,e=>Zx6 (mtX P top sc nm a) n e
 | .call f xs,e=>Zp5 sc (P.gfns.contains f) f (mtXs P top sc nm xs) e
 | .new cl xs,e=>Zp5 sc (P.classes.contains cl) cl (mtXs P top sc nm xs) e
 | .meth a m xs,e=>Zvq m (mtX P top sc nm a) (mtXs P top sc nm xs) e
 | .bm a m xs,e=>Zvq m.str (mtX P top sc nm a) (mtXs P top sc nm xs) e
 | .prim f xs,e=>Zp5 sc (P.prims.contains f.str) f.str (mtXs P top sc nm xs) e
 | .isinst a ty,e=>mIsi P sc (mtX P top sc nm a) ty e
 | .list xs,e=>Zx3 (mtXs P top sc nm xs) e
 | .tuple xs,e=>mTup (mtXs P top sc nm xs) e
 | .dict ks vs,e=>Zvr ks vs (mtOs P top sc nm ks) (mtXs P top sc nm vs) e
 | .comp x k tup it c,e=>Zx4 top tup k sc nm (mtX P top sc nm it) (fun csc nm'=>mtX P false csc nm' x) (fun csc nm'=>mtC P csc nm' c) e
noncomputable def mtXs (P:Pg) (top:Bool) (sc:Scope) (nm:List Str):List X→List Expr→Bool
 | [],es=>es.isEmpty
 | x::r,es=>onC es fun e q=>mtX P top sc nm x e&&Zc2 e&&mtXs P top sc nm r q
noncomputable def mtO (P:Pg) (top:Bool) (sc:Scope) (nm:List Str):Option X→Option Expr→Bool
 | none,e=>e.isNone
 | some x,e=>Zhj e fun e=>mtX P top sc nm x e
noncomputable def mtOs (P:Pg) (top:Bool) (sc:Scope) (nm:List Str):List X→List (Option Expr)→Bool
 | [],es=>es.isEmpty
 | x::r,es=>onC es fun o q=>(Zhj o fun e=>mtX P top sc nm x e)&&mtOs P top sc nm r q
noncomputable def mtC (P:Pg) (sc:Scope) (nm:List Str):Option X→List Expr→Bool
 | none,es=>es.isEmpty
 | some x,es=>on1 es fun e=>mtX P false sc nm x e
end
noncomputable def Zdv (sc:Scope) (id:Str):Bool:=match sc.names.lookup id with
 | some .local=>true
 | some .cell=>true
 | _=>false
theorem Zkj {sc:Scope} {id:Str} (h:Zij sc id=true):sc.names.lookup id=some .local∨sc.names.lookup id=some .cell∨sc.names.lookup id=some .free:=by
 unfold Zij at h
 revert h
 cases sc.names.lookup id with
 | none=>exact fun h=>Bool.noConfusion h
 | some k=>cases k<;>first | exact fun _=>.inl rfl | exact fun _=>.inr (.inl rfl) | exact fun _=>.inr (.inr rfl) | exact fun h=>Bool.noConfusion h
theorem Zii {sc:Scope} {id:Str} (h:Zdv sc id=true):sc.names.lookup id=some .local∨sc.names.lookup id=some .cell:=by
 unfold Zdv at h
 revert h
 cases sc.names.lookup id with
 | none=>exact fun h=>Bool.noConfusion h
 | some k=>cases k<;>first | exact fun _=>.inl rfl | exact fun _=>.inr rfl | exact fun h=>Bool.noConfusion h
inductive OVW:Option AV→Option Value→Prop
 | none {x}:OVW Option.none x
 | some {a v}:VR a v→OVW (Option.some a) (Option.some v)
structure Frm (R:RR) (env:Env) (sc:Scope) (nm:List Str) (V:VV):Prop where
 kind:env.scope.kind = .function
 glob:env.globals=mainGlobals
 blt:env.builtins=builtinsNs
 sco:∀ id,Zqe sc id=true→env.kindOf id=some .globalImplicit
 kok:∀ id,Zij sc id=true→env.kindOf id=some .local∨env.kindOf id=some .cell∨env.kindOf id=some .free
 lok:∀ id,Zdv sc id=true→env.kindOf id=some .local∨env.kindOf id=some .cell
 lco:∀ id,sc.names.lookup id=some .local→env.kindOf id=some .local
 cco:∀ id,sc.names.lookup id=some .cell→env.kindOf id=some .cell
 len:V.length=nm.length
 inj:∀ n n' a,env.cells.lookup n=some a→env.cells.lookup n'=some a→n=n'
 ns:∃ m,R env.locals=some (.ns m)∧∀ (i:Nat) n,nm[i]? = some n→env.kindOf n=some .local→∃ v,V[i]? = some v∧OVW v (m n)
 cell:∀ (i:Nat) n,nm[i]? = some n→(env.kindOf n=some .cell∨env.kindOf n=some .free)→∃ a x v,env.cells.lookup n=some a∧R a=some (.cell x)∧V[i]? = some v∧OVW v x
noncomputable def veM:List Value:=[.type "ValueError",.type "Exception",.type "BaseException",.type "object"]
noncomputable def typeNames:List String:=["int","bool","str","list"]
structure PgOk (c:Cx):Prop where
 fn:∀ f,c.P.gfns.contains f=true→nsIn c.K mainGlobals (Str.ofString f)=some (some (.ref (c.fa f)))∧keepIn c.K (.ref (c.fa f))=true
 cls:∀ cl,c.P.classes.contains cl=true→nsIn c.K mainGlobals (Str.ofString cl)=some (some (.ref (c.ca cl)))∧keepIn c.K (.ref (c.ca cl))=true∧makesIn c.K (c.ca cl)=true ∧
  findIn c.K (.ref (c.ca cl)) "__init__" = some (some (.ref (c.fa (cl++".__init__"))))∧isFn c.K (.ref (c.fa (cl++".__init__")))=true
 meth:∀ cl m,c.P.meths.contains (cl,m)=true→plainGet c.K (c.ca cl) (Str.ofString m)=true∧findIn c.K (.ref (c.ca cl)) (Str.ofString m)=some (some (.ref (c.fa (cl++"."++m))))∧isFn c.K (.ref (c.fa (cl++"."++m)))=true ∧
  keepIn c.K (.ref (c.fa (cl++"."++m)))=true
 attr:∀ cl n,c.P.attrs.contains (cl,n)=true→plainGet c.K (c.ca cl) (Str.ofString n)=true∧hasDictIn c.K (c.ca cl)=true∧findIn c.K (.ref (c.ca cl)) (Str.ofString n)=some none ∧
  findIn c.K (.ref (c.ca cl)) "__setattr__" = some (some (.builtin "object.__setattr__"))∧plainOver c.K (c.ca cl)=true∧takerIn c.K (c.ca cl) (Str.ofString n)=some none
 prim:∀ f,c.P.prims.contains f=true→nsIn c.K mainGlobals (Str.ofString f)=some none∧(Str.ofString f==Str.ofString "__name__")=false∧bootBuiltins (Str.ofString f)=some (Zgt f)
 exc:∀ cl ty,((c.P.excs.lookup cl).map (·.contains ty)).getD false=true→c.P.prims.contains ty=true→ty = "ValueError"∧subIn c.K (.ref (c.ca cl)) (.type ty)=some true
 excR:∀ cl,(c.P.excs.lookup cl).isSome=true→nsIn c.K mainGlobals (Str.ofString cl)=some (some (.ref (c.ca cl)))∧excIn c.K (c.ca cl) veM "ValueError.__new__" = true∧instIn c.K (.ref (c.ca cl)) (.type "tuple")=some false∧subIn c.K (.ref (c.ca cl)) (.type "BaseException")=some true∧(clsIn c.K (c.ca cl)).isSome=true ∧
  typeIn c.K (.ref (c.ca cl))=some (.type "type")∧instIn c.K (.ref (c.ca cl)) (.type "type")=some true∧typeNames.contains cl=false
 excC:∀ cl d,(c.P.excs.lookup cl).isSome=true→(c.P.excs.lookup d).isSome=true→subIn c.K (.ref (c.ca cl)) (.ref (c.ca d))=some (Zd3 c.P cl d)
 excG:∀ cl,(c.P.excs.lookup cl).isSome=true→findIn c.K (.ref (c.ca cl)) "__getattribute__" = some (some (.builtin "BaseException.__getattribute__"))∧findIn c.K (.ref (c.ca cl)) "__getattr__" = some none∧findIn c.K (.ref (c.ca cl)) "__class__" = some (some (.builtin "object.__class__")) ∧
  specialIn c.K (.builtin "object.__class__") "__get__" = some (some (.builtin "getset_descriptor.__get__"))∧takesIn c.K (.builtin "object.__class__")=some true∧mroIn c.K (c.ca cl) (.type "object")=some true∧Zd3 c.P cl cl=true
 const:∀ n v,c.P.consts.lookup n=some v→∃ x,nsIn c.K mainGlobals (Str.ofString n)=some (some x)∧VR v x
end Mine
namespace Mine
noncomputable def Zxn (e:Stmt) (k:Option Expr→Pos→Bool):Bool:=if h:e.ctorIdx=3 then Stmt.Return.elim (motive_2:=fun _=>Bool) e h k else false
theorem Zpn {m:Stmt→Prop} {e:Stmt} {k:Option Expr→Pos→Bool} (h:Zxn e k=true) (f:∀ v p,k v p=true→m (.Return v p)):m e :=
 (dn h).elim fun q z=>Stmt.Return.elim (motive_2:=fun e=>∀ q,Stmt.Return.elim (motive_2:=fun _=>Bool) e q k=true→m e) e q (fun v p _ z=>f v p z) q z
noncomputable def Zxs (e:Stmt) (k:List Expr→Expr→Pos→Bool):Bool:=if h:e.ctorIdx=5 then Stmt.Assign.elim (motive_2:=fun _=>Bool) e h k else false
theorem Zpt {m:Stmt→Prop} {e:Stmt} {k:List Expr→Expr→Pos→Bool} (h:Zxs e k=true) (f:∀ ts v p,k ts v p=true→m (.Assign ts v p)):m e :=
 (dn h).elim fun q z=>Stmt.Assign.elim (motive_2:=fun e=>∀ q,Stmt.Assign.elim (motive_2:=fun _=>Bool) e q k=true→m e) e q (fun ts v p _ z=>f ts v p z) q z
noncomputable def Zxq (e:Stmt) (k:Expr→Expr→List Stmt→List Stmt→Pos→Bool):Bool:=if h:e.ctorIdx=9 then Stmt.For.elim (motive_2:=fun _=>Bool) e h k else false
theorem Zpq {m:Stmt→Prop} {e:Stmt} {k:Expr→Expr→List Stmt→List Stmt→Pos→Bool} (h:Zxq e k=true) (f:∀ t i b o p,k t i b o p=true→m (.For t i b o p)):m e :=
 (dn h).elim fun q z=>Stmt.For.elim (motive_2:=fun e=>∀ q,Stmt.For.elim (motive_2:=fun _=>Bool) e q k=true→m e) e q (fun t i b o p _ z=>f t i b o p z) q z
noncomputable def Zpj (e:Stmt) (k:Expr→List Stmt→List Stmt→Pos→Bool):Bool:=if h:e.ctorIdx=11 then Stmt.While.elim (motive_2:=fun _=>Bool) e h k else false
theorem Zll {m:Stmt→Prop} {e:Stmt} {k:Expr→List Stmt→List Stmt→Pos→Bool} (h:Zpj e k=true) (f:∀ t b o p,k t b o p=true→m (.While t b o p)):m e :=
 (dn h).elim fun q z=>Stmt.While.elim (motive_2:=fun e=>∀ q,Stmt.While.elim (motive_2:=fun _=>Bool) e q k=true→m e) e q (fun t b o p _ z=>f t b o p z) q z
noncomputable def Zxp (e:Stmt) (k:Expr→List Stmt→List Stmt→Pos→Bool):Bool:=if h:e.ctorIdx=12 then Stmt.If.elim (motive_2:=fun _=>Bool) e h k else false
theorem Zpp {m:Stmt→Prop} {e:Stmt} {k:Expr→List Stmt→List Stmt→Pos→Bool} (h:Zxp e k=true) (f:∀ t b o p,k t b o p=true→m (.If t b o p)):m e :=
 (dn h).elim fun q z=>Stmt.If.elim (motive_2:=fun e=>∀ q,Stmt.If.elim (motive_2:=fun _=>Bool) e q k=true→m e) e q (fun t b o p _ z=>f t b o p z) q z
noncomputable def onRaise (e:Stmt) (k:Option Expr→Option Expr→Pos→Bool):Bool:=if h:e.ctorIdx=16 then Stmt.Raise.elim (motive_2:=fun _=>Bool) e h k else false
theorem Zlo {m:Stmt→Prop} {e:Stmt} {k:Option Expr→Option Expr→Pos→Bool} (h:onRaise e k=true) (f:∀ x c p,k x c p=true→m (.Raise x c p)):m e :=
 (dn h).elim fun q z=>Stmt.Raise.elim (motive_2:=fun e=>∀ q,Stmt.Raise.elim (motive_2:=fun _=>Bool) e q k=true→m e) e q (fun x c p _ z=>f x c p z) q z
noncomputable def Zxm (e:Stmt) (k:List Stmt→List ExceptHandler→List Stmt→List Stmt→Pos→Bool):Bool:=if h:e.ctorIdx=17 then Stmt.Try.elim (motive_2:=fun _=>Bool) e h k else false
theorem Zpk {m:Stmt→Prop} {e:Stmt} {k:List Stmt→List ExceptHandler→List Stmt→List Stmt→Pos→Bool} (h:Zxm e k=true) (f:∀ b hs o fi p,k b hs o fi p=true→m (.Try b hs o fi p)):m e :=
 (dn h).elim fun q z=>Stmt.Try.elim (motive_2:=fun e=>∀ q,Stmt.Try.elim (motive_2:=fun _=>Bool) e q k=true→m e) e q (fun b hs o fi p _ z=>f b hs o fi p z) q z
noncomputable def Zt9 (e:Stmt) (k:Expr→Pos→Bool):Bool:=if h:e.ctorIdx=24 then Stmt.Expr.elim (motive_2:=fun _=>Bool) e h k else false
theorem Znt {m:Stmt→Prop} {e:Stmt} {k:Expr→Pos→Bool} (h:Zt9 e k=true) (f:∀ v p,k v p=true→m (.Expr v p)):m e :=
 (dn h).elim fun q z=>Stmt.Expr.elim (motive_2:=fun e=>∀ q,Stmt.Expr.elim (motive_2:=fun _=>Bool) e q k=true→m e) e q (fun v p _ z=>f v p z) q z
noncomputable def Zt6 (e:Stmt) (k:Pos→Bool):Bool:=if h:e.ctorIdx=25 then Stmt.Pass.elim (motive_2:=fun _=>Bool) e h k else false
theorem Znq {m:Stmt→Prop} {e:Stmt} {k:Pos→Bool} (h:Zt6 e k=true) (f:∀ p,k p=true→m (.Pass p)):m e :=
 (dn h).elim fun q z=>Stmt.Pass.elim (motive_2:=fun e=>∀ q,Stmt.Pass.elim (motive_2:=fun _=>Bool) e q k=true→m e) e q (fun p _ z=>f p z) q z
noncomputable def Zfc (e:Expr):Bool:=e.ctorIdx != 8&&e.ctorIdx != 9&&e.ctorIdx != 10&&e.ctorIdx != 7
noncomputable def Zna (sc:Scope) (nm:List Str) (i:Nat) (e:Expr):Bool:=Zie e fun id _=>nm[i]?==some id&&Zdv sc id
theorem Zg3 {sc:Scope} {nm:List Str} {i:Nat} {m:Expr→Prop} {e:Expr} (h:Zna sc nm i e=true) (f:∀ id p,nm[i]? = some id→Zdv sc id=true→m (.Name id p)):m e :=
 Zb8 h fun id p h=>f id p (eq_of_beq (and2 h).1) (and2 h).2
noncomputable def Zh0 (sc:Scope) (nm:List Str):List Nat→List Expr→Bool
 | [],es=>es.isEmpty
 | i::is,es=>onC es fun e r=>Zna sc nm i e&&Zh0 sc nm is r
noncomputable def Zon (sc:Scope) (nm:List Str) (is:List Nat) (e:Expr):Bool:=Zsm e fun es _ _=>Zh0 sc nm is es
noncomputable def tgOk (sc:Scope) (nm:List Str) (t:Tg) (e:Expr):Bool:=match t with
 | .var i=>Zna sc nm i e
 | .tup is=>Zon sc nm is e
noncomputable def Zkd (e:Expr):Bool:=e.ctorIdx != 25
noncomputable def mtT (P:Pg) (sc:Scope) (nm:List Str) (t:T) (e:Expr):Bool:=match t with
 | .var i=>Zna sc nm i e
 | .sub a i=>Zsn e fun v sl _=>Zhl sl&&mtX P true sc nm a v&&mtX P true sc nm i sl
 | .attr a n=>Zif e fun v at' _=>at'==Str.ofString n&&mtX P true sc nm a v
 | .tup is=>Zon sc nm is e
noncomputable def Zlq:T→Bool
 | .tup _=>false
 | _=>true
noncomputable def Zx2 (msg:Str) (es:List Expr):Bool:=on1 es fun e=>mLit (.str msg) e
noncomputable def nmOk (sc:Scope) (nm:List Str) (nmi:Option Nat) (name:Option Str):Bool:=match nmi with
 | none=>name.isNone
 | some i=>Zhj name fun n=>nm[i]?==some n&&sc.names.lookup n==some .local
mutual
noncomputable def mtS (P:Pg) (sc:Scope) (nm:List Str):S→Stmt→Bool
 | .assign t e,st=>Zxs st fun ts v _=>on1 ts fun tg=>(Zfc v||(isLC v&&Zqf e))&&(Zkd v||Zlq t)&&mtT P sc nm t tg&&mtX P true sc nm e v
 | .expr e,st=>Zt9 st fun v _=>Zfc v&&mtX P true sc nm e v
 | .ret e,st=>Zxn st fun v _=>Zhj v fun v=>mtX P true sc nm e v
 | .ite c a b,st=>Zxp st fun t x y _=>mtX P true sc nm c t&&mtSs P sc nm a x&&mtSs P sc nm b y
 | .while c b,st=>Zpj st fun t x o _=>o.isEmpty&&(mtX P true sc nm c t&&mtSs P sc nm b x)
 | .for t it b,st=>Zxq st fun tg iter x o _=>o.isEmpty&&(Zig iter&&tgOk sc nm t tg&&mtX P true sc nm it iter&&mtSs P sc nm b x)
 | .raise cl msg,st=>onRaise st fun c z _=>z.isNone&&Zhj c fun c=>Zp5 sc (P.excs.lookup cl).isSome cl (Zx2 msg) c
 | .try b hs,st=>Zxm st fun x hs' o z _=>(o.isEmpty&&z.isEmpty)&&(mtSs P sc nm b x&&onC hs' fun h₀ r=>mtHs P sc nm hs (h₀::r))
 | .pass,st=>Zt6 st fun _=>true
noncomputable def mtSs (P:Pg) (sc:Scope) (nm:List Str):List S→List Stmt→Bool
 | [],es=>es.isEmpty
 | x::r,es=>onC es fun e q=>mtS P sc nm x e&&mtSs P sc nm r q
noncomputable def mtHs (P:Pg) (sc:Scope) (nm:List Str):List Hd→List ExceptHandler→Bool
 | [],es=>es.isEmpty
 | h::r,es=>onC es fun e q=>mtH P sc nm h e&&mtHs P sc nm r q
noncomputable def mtH (P:Pg) (sc:Scope) (nm:List Str):Hd→ExceptHandler→Bool
 | .mk cl nmi b,e=>match e with
  | .ExceptHandler ty name body _=>Zhj ty fun t=>onC body fun x body=>Zby sc cl t&&(P.excs.lookup cl).isSome&&mtSs P sc nm b (x::body)&&nmOk sc nm nmi name
end
end Mine
end
section
namespace Mine
noncomputable def HX (g:Gx) (A:Around) (R:RR) (V:VV) (s₀:Shared) (x:X) (t:Sem Value):Prop :=
 ∀ (H:Zaa) (s:Shared) (Q:AV→Zaa→Prop) (E:String→Zaa→Prop),St g.c R H s.heap→Sm s₀ s→wpX g x V Q E H→wpAny (model g.c.prog g.c.w) A t (TQ g R s₀ Q) (TE g R s₀ E) s
inductive TTi (c:Cx) (R:RR) (s₀:Shared) (Q:AV→Bool→Zaa→Prop) (b:Bool) (s':Shared):Prop
 | mk (v:AV) (H':Zaa) (S:St c R H' s'.heap) (m:Sm s₀ s') (q:Q v b H') (h:∀ P:Bool→Prop,Zbm v H' P→P b):TTi c R s₀ Q b s'
noncomputable def TT (g:Gx) (R:RR) (s₀:Shared) (Q:AV→Bool→Zaa→Prop) (b:Bool) (s':Shared):Prop:=TTi g.c R s₀ Q b s'
noncomputable def HT (g:Gx) (A:Around) (R:RR) (V:VV) (s₀:Shared) (x:X) (t:Sem Bool):Prop :=
 ∀ (H:Zaa) (s:Shared) (Q:AV→Bool→Zaa→Prop) (E:String→Zaa→Prop),St g.c R H s.heap→Sm s₀ s→wpX g x V (fun v H=>Zbm v H fun b=>Q v b H) E H →
  wpAny (model g.c.prog g.c.w) A t (TT g R s₀ Q) (TE g R s₀ E) s
inductive TQsi (c:Cx) (R:RR) (s₀:Shared) (Q:List AV→Zaa→Prop) (vs:List Value) (s':Shared):Prop
 | mk (as:List AV) (H':Zaa) (hv:VRs as vs) (S:St c R H' s'.heap) (m:Sm s₀ s') (q:Q as H'):TQsi c R s₀ Q vs s'
noncomputable def TQs (g:Gx) (R:RR) (s₀:Shared) (Q:List AV→Zaa→Prop) (vs:List Value) (s':Shared):Prop:=TQsi g.c R s₀ Q vs s'
noncomputable def HXs (g:Gx) (A:Around) (R:RR) (V:VV) (s₀:Shared) (xs:List X) (t:Sem (List Value)):Prop :=
 ∀ (H:Zaa) (s:Shared) (Q:List AV→Zaa→Prop) (E:String→Zaa→Prop),St g.c R H s.heap→Sm s₀ s→wpXs g xs V Q E H→wpAny (model g.c.prog g.c.w) A t (TQs g R s₀ Q) (TE g R s₀ E) s
theorem Zk7 {v:AV} {H:Zaa} {P:Bool→Prop} (h:Zbm v H P):∃ b,P b∧(∀ P':Bool→Prop,Zbm v H P'→P' b)∧∀ P':Bool→Prop,P' b→Zbm v H P':=by
 cases v with
 | none=>exact ⟨_,h,fun _ x=>x,fun _ x=>x⟩
 | bool b=>exact ⟨_,h,fun _ x=>x,fun _ x=>x⟩
 | int i=>exact ⟨_,h,fun _ x=>x,fun _ x=>x⟩
 | str s=>exact ⟨_,h.2,fun _ x=>x.2,fun _ x=>⟨h.1,x⟩⟩
 | ref a =>
  have t:∀ {P':Bool→Prop},Zbm (.ref a) H P'=_:=Zw1
  rw [t] at h;simp only [t]
  generalize H a=o at h ⊢
  cases o with
  | none=>exact h.elim
  | some o=>cases o with
   | list xs=>exact ⟨_,h.2,fun P' x=>x.2,fun P' x=>⟨h.1,x⟩⟩
   | tuple xs=>exact ⟨_,h.2,fun P' x=>x.2,fun P' x=>⟨h.1,x⟩⟩
   | _=>exact h.elim
section
variable {g:Gx} {A:Around} {R:RR} {V:VV} {s₀:Shared} {env:Env} {mg mb:Str→Option Value} {e₀:Env} {l₀:List Env}
theorem Zgs {H:Zaa} {s:Shared} {v:Value} {a:AV} {Q:AV→Bool→Zaa→Prop} {E:Value→Shared→Prop} (hv:VR a v) (S:St g.c R H s.heap) (m:Sm s₀ s) (q:Zbm a H (fun b=>Q a b H)) :
  wpAny (model g.c.prog g.c.w) A (truthy v) (TT g R s₀ Q) E s:=by
 obtain ⟨b,qb,hb,hb'⟩:=Zk7 q
 refine wpAny_mono (Zi5 (A:=A) (E:=E) (Qb:=fun b' H'=>H'=H∧b'=b) hv S m (hb' _ ⟨rfl,rfl⟩)) (fun b' s' h=>?_) fun _ _ x=>x
 obtain ⟨H',S',m',e1,e2⟩:=h
 subst e1 e2
 exact ⟨a,H',S',m',qb,hb⟩
theorem HT.plain {x:X} {e:Expr} {whole:Sem Value} (h:HX g A R V s₀ x whole) (he:isTrue e env whole=(do let v ← whole;standAt e.pos;holding [v] (truthy v))) :
  HT g A R V s₀ x (isTrue e env whole):=fun H s Q E S m q=>by
 refine isTrue_plain (wpAny_mono (h H s _ E S m q) (fun v s' z=>?_) fun _ _ z=>z) he
 obtain ⟨a,H',hv,S',m',q'⟩:=z
 exact Zgs hv S' m' q'
theorem Zyi {v:AV} {cc:Const} {k:Nat} {p:Pos} (hc:Zx9 v cc=true):HX g A R V s₀ (.lit v) (eval (.Constant cc k p) env):=fun H s Q E S m q=>by
 cases v with
 | none=>refine rl (eq_of_beq hc) ?_;exact wpAny_Constant_none (TQ.pure .none S m q)
 | bool b=>refine rl (eq_of_beq hc) ?_;exact wpAny_Constant_bool (TQ.pure (.bool _) S m q)
 | int i=>refine rl (eq_of_beq hc) ?_;exact wpAny_Constant_int (TQ.toks (.int _ _) S m q)
 | str x=>refine rl (eq_of_beq (and2 hc).1) ?_;exact wpAny_Constant_str (TQ.toks (.str _ _ (and2 hc).2) S m q)
 | ref a=>exact Bool.noConfusion hc
theorem Zyd {sc:Scope} {nm:List Str} {i:Nat} {id:Str} {p:Pos} (fr:Frm R env sc nm V) (h1:nm[i]? = some id) (h2:Zij sc id=true) (h3:Zd0 id=true) :
  HX g A R V s₀ (.var i) (eval (.Name id p) env):=fun H s Q E S m q=>by
 unfold Zd0 at h3
 simp only [Bool.and_eq_true,Bool.not_eq_true'] at h3
 dsimp only [Zai,Zad,Zau,Zbq,Zba,x_ao,Zbp,Zan,Za2,Zat,Zas,Za1,Zao,Zal,x_bm,Zbn,Zaz,Zbj,Zcd,Zaq,Za9,Za5,Zbe,Zbf] at q
 rcases fr.kok id h2 with k | k | k
 ·obtain ⟨mm,r1,r2⟩:=fr.ns
  obtain ⟨v,e,ov⟩:=r2 i id h1 k
  rw [e] at q
  generalize hw:mm id=w at ov
  cases ov with
  | none=>exact q.elim
  | some hv=>exact wpAny_Name (wpAny_loadName_local fr.kind k (S.res _ _ r1).2 hw (TQ.pure hv S m q)) h3.1
 ·obtain ⟨a,x,v,e1,e2,e3,ov⟩:=fr.cell i id h1 (.inl k)
  rw [e3] at q
  cases ov with
  | none=>exact q.elim
  | some hv=>exact wpAny_Name (wpAny_loadName_cell fr.kind k e1 (S.res _ _ e2).2 (TQ.pure hv S m q)) h3.1
 ·obtain ⟨a,x,v,e1,e2,e3,ov⟩:=fr.cell i id h1 (.inr k)
  rw [e3] at q
  cases ov with
  | none=>exact q.elim
  | some hv=>exact wpAny_Name (wpAny_loadName_free fr.kind k e1 (S.res _ _ e2).2 (TQ.pure hv S m q) h3.2) h3.1
theorem Zip {sc:Scope} {nm:List Str} {n:String} {e:Expr} {v:Value} {H:Zaa} {s:Shared} {Q:Value→Shared→Prop} {E:Value→Shared→Prop} (C:g.c.Ok mg mb) (fr:Frm R env sc nm V) (S:St g.c R H s.heap)
  (hn:Zby sc n e=true) (hk:nsIn g.c.K mainGlobals (Str.ofString n)=some (some v)) (q:Q v s):wpAny (model g.c.prog g.c.w) A (eval e env) Q E s:=by
 refine Zb8 (m:=fun e=>wpAny (model g.c.prog g.c.w) A (eval e env) Q E s) hn fun id p hn=>?_
 have h2:=and2 hn;have h1:=and2 h2.1
 refine Name_function_global fr.kind (fr.sco _ h1.2) (loadGlobal_global (mg:=mg) ?_ (eq_of_beq h1.1▸mg_of C.kin C.g hk) q) (not1 (and2 h2.2).1)
 refine rl fr.glob ?_;exact C.g.keeps S.stays
theorem Zmx {sc:Scope} {nm:List Str} {n:String} {e:Expr} {v:Value} {H:Zaa} {s:Shared} {Q:Value→Shared→Prop} {E:Value→Shared→Prop} (C:g.c.Ok mg mb) (fr:Frm R env sc nm V) (S:St g.c R H s.heap)
  (hn:Zby sc n e=true) (hk:nsIn g.c.K mainGlobals (Str.ofString n)=some none) (hne:(Str.ofString n==Str.ofString "__name__")=false) (hb:bootBuiltins (Str.ofString n)=some v) (q:Q v s) :
  wpAny (model g.c.prog g.c.w) A (eval e env) Q E s:=by
 refine Zb8 (m:=fun e=>wpAny (model g.c.prog g.c.w) A (eval e env) Q E s) hn fun id p hn=>?_
 have h2:=and2 hn;have h1:=and2 h2.1
 have he:=eq_of_beq h1.1
 refine Name_function_global fr.kind (fr.sco _ h1.2) (loadGlobal_builtin (mg:=mg) (mb:=mb) ?_ (he▸mg_none_of C.kin C.g hk) ?_ (he▸(C.builtins _ (ne_of_beq_false hne)).trans hb) q) (not1 (and2 h2.2).1)
 ·refine rl fr.glob ?_;exact C.g.keeps S.stays
 ·refine rl fr.blt ?_;exact C.b.keeps S.stays
set_option tactic.hygienic true in
theorem Zv4 {sc:Scope} {nm:List Str} {n:String} {e:Expr} (C:g.c.Ok mg mb) (PO:PgOk g.c) (fr:Frm R env sc nm V) (hn:Zby sc n e=true):HX g A R V s₀ (.glob n) (eval e env):=fun H s Q E S m q=>by
 dsimp only [Zai,Zad,Zau,Zbq,Zba,x_ao,Zbp,Zan,Za2,Zat,Zas,Za1,Zao,Zal,x_bm,Zbn,Zaz,Zbj,Zcd,Zaq,Za9,Za5,Zbe,Zbf] at q
 split at q
 ·rename_i v hv
  obtain ⟨x,h1,h2⟩:=PO.const n v hv
  exact Zip C fr S hn h1 (TQ.pure h2 S m q)
 ·exact q.elim
theorem Zym {op:Operator} {a b:X} {l r:Expr} {p:Pos} (C:g.c.Ok mg mb) (ev:Ev g A R e₀ l₀) (ha:HX g A R V s₀ a (eval l env)) (hb:HX g A R V s₀ b (eval r env)):HX g A R V s₀ (.bin op a b) (eval (.BinOp l op r p) env) :=
 fun H s Q E S m q=>by
 dsimp only [Zai,Zad,Zau,Zbq,Zba,x_ao,Zbp,Zan,Za2,Zat,Zas,Za1,Zao,Zal,x_bm,Zbn,Zaz,Zbj,Zcd,Zaq,Za9,Za5,Zbe,Zbf] at q
 refine wpAny_BinOp (wpAny_mono (ha H s _ E S m q) (fun u s₁ z=>?_) fun _ _ z=>z)
 obtain ⟨au,H₁,hu,S₁,m₁,q₁⟩:=z
 refine wpAny_mono (hb H₁ s₁ _ E S₁ m₁ q₁) (fun v s₂ z=>?_) fun _ _ z=>z
 obtain ⟨av,H₂,hv,S₂,m₂,q₂⟩:=z
 exact Zzy C ev hu hv S₂ m₂ q₂
theorem Zyh {a:X} {l:Expr} {p:Pos} (ha:HX g A R V s₀ a (eval l env)):HX g A R V s₀ (.neg a) (eval (.UnaryOp .USub l p) env):=fun H s Q E S m q=>by
 dsimp only [Zai,Zad,Zau,Zbq,Zba,x_ao,Zbp,Zan,Za2,Zat,Zas,Za1,Zao,Zal,x_bm,Zbn,Zaz,Zbj,Zcd,Zaq,Za9,Za5,Zbe,Zbf] at q
 refine wpAny_UnaryOp (wpAny_mono (ha H s _ E S m q) (fun u s₁ z=>?_) fun _ _ z=>z)
 obtain ⟨au,H₁,hu,S₁,m₁,q₁⟩:=z
 split at q₁
 ·cases hu;exact neg_int (TQ.toks (.int _ _) S₁ m₁ q₁)
 ·exact q₁.elim
theorem Zyf {a:X} {l:Expr} {p:Pos} (ha:HX g A R V s₀ a (eval l env)):HX g A R V s₀ (.not a) (eval (.UnaryOp .Not l p) env):=fun H s Q E S m q=>by
 dsimp only [Zai,Zad,Zau,Zbq,Zba,x_ao,Zbp,Zan,Za2,Zat,Zas,Za1,Zao,Zal,x_bm,Zbn,Zaz,Zbj,Zcd,Zaq,Za9,Za5,Zbe,Zbf] at q
 refine wpAny_UnaryOp (wpAny_mono (ha H s _ E S m q) (fun u s₁ z=>?_) fun _ _ z=>z)
 obtain ⟨au,H₁,hu,S₁,m₁,q₁⟩:=z
 refine not_of (wpAny_mono (Zi5 hu S₁ m₁ (Qb:=fun b H=>Q (.bool (!b)) H) q₁) (fun b s₂ z=>?_) fun _ _ z=>z)
 obtain ⟨H₂,S₂,m₂,q₂⟩:=z
 exact TQ.pure (.bool _) S₂ m₂ q₂
theorem Zyn {a:X} {l:Expr} {p:Pos} {whole:Sem Value} (ha:HT g A R V s₀ a (isTrue l env (eval l env))):HT g A R V s₀ (.not a) (isTrue (.UnaryOp .Not l p) env whole):=fun H s Q E S m q=>by
 dsimp only [Zai,Zad,Zau,Zbq,Zba,x_ao,Zbp,Zan,Za2,Zat,Zas,Za1,Zao,Zal,x_bm,Zbn,Zaz,Zbj,Zcd,Zaq,Za9,Za5,Zbe,Zbf] at q
 refine isTrue_not (wpAny_mono (ha H s (fun _ b H=>Q (.bool (!b)) (!b) H) E S m q) (fun b s₁ z=>?_) fun _ _ z=>z)
 obtain ⟨v,H₁,S₁,m₁,q₁,_⟩:=z
 exact ⟨.bool (!b),H₁,S₁,m₁,q₁,fun P z=>z⟩
theorem Zyj {c a b:X} {t x y:Expr} {p:Pos} (hc:HT g A R V s₀ c (isTrue t env (eval t env))) (ha:HX g A R V s₀ a (eval x env)) (hb:HX g A R V s₀ b (eval y env)) :
  HX g A R V s₀ (.ite c a b) (eval (.IfExp t x y p) env):=fun H s Q E S m q=>by
 dsimp only [Zai,Zad,Zau,Zbq,Zba,x_ao,Zbp,Zan,Za2,Zat,Zas,Za1,Zao,Zal,x_bm,Zbn,Zaz,Zbj,Zcd,Zaq,Za9,Za5,Zbe,Zbf] at q
 refine wpAny_IfExp (wpAny_mono (hc H s (fun _ t H=>if t then wpX g a V Q E H else wpX g b V Q E H) E S m q) (fun b s₁ z=>?_) fun _ _ z=>z)
 obtain ⟨v,H₁,S₁,m₁,q₁,_⟩:=z
 cases b with
 | true=>exact ha H₁ s₁ Q E S₁ m₁ q₁
 | false=>exact hb H₁ s₁ Q E S₁ m₁ q₁
theorem Zyo {c a b:X} {t x y:Expr} {p:Pos} {whole:Sem Value} (hc:HT g A R V s₀ c (isTrue t env (eval t env))) (ha:HT g A R V s₀ a (isTrue x env (eval x env))) (hb:HT g A R V s₀ b (isTrue y env (eval y env))) :
  HT g A R V s₀ (.ite c a b) (isTrue (.IfExp t x y p) env whole):=fun H s Q E S m q=>by
 dsimp only [Zai,Zad,Zau,Zbq,Zba,x_ao,Zbp,Zan,Za2,Zat,Zas,Za1,Zao,Zal,x_bm,Zbn,Zaz,Zbj,Zcd,Zaq,Za9,Za5,Zbe,Zbf] at q
 refine rl (arm_isTrue_IfExp ..) ?_
 refine wpAny_bind (wpAny_mono (hc H s (fun _ t H=>if t then wpX g a V _ E H else wpX g b V _ E H) E S m q) (fun b s₁ z=>?_) fun _ _ z=>z)
 obtain ⟨v,H₁,S₁,m₁,q₁,_⟩:=z
 cases b with
 | true=>exact ha H₁ s₁ Q E S₁ m₁ q₁
 | false=>exact hb H₁ s₁ Q E S₁ m₁ q₁
theorem Zyl {op:CmpOp} {a b:X} {l r:Expr} {p:Pos} (C:g.c.Ok mg mb) (ev:Ev g A R e₀ l₀) (hm:behindInMarks op r=false) (ha:HX g A R V s₀ a (eval l env)) (hb:HX g A R V s₀ b (eval r env)) :
  HX g A R V s₀ (.cmp op a b) (eval (.Compare l [op] [r] p) env):=fun H s Q E S m q=>by
 dsimp only [Zai,Zad,Zau,Zbq,Zba,x_ao,Zbp,Zan,Za2,Zat,Zas,Za1,Zao,Zal,x_bm,Zbn,Zaz,Zbj,Zcd,Zaq,Za9,Za5,Zbe,Zbf] at q
 refine wpAny_Compare1 (wpAny_mono (ha H s _ E S m q) (fun u s₁ z=>?_) fun _ _ z=>z) hm
 obtain ⟨au,H₁,hu,S₁,m₁,q₁⟩:=z
 refine wpAny_mono (hb H₁ s₁ _ E S₁ m₁ q₁) (fun v s₂ z=>?_) fun _ _ z=>z
 obtain ⟨av,H₂,hv,S₂,m₂,q₂⟩:=z
 exact Znf C ev hu hv S₂ m₂ q₂
theorem Zyp {op:CmpOp} {a b:X} {l r:Expr} {p:Pos} {whole:Sem Value} (C:g.c.Ok mg mb) (ev:Ev g A R e₀ l₀) (hm:behindInMarks op r=false) (ha:HX g A R V s₀ a (eval l env)) (hb:HX g A R V s₀ b (eval r env)) :
  HT g A R V s₀ (.cmp op a b) (isTrue (.Compare l [op] [r] p) env whole):=fun H s Q E S m q=>by
 dsimp only [Zai,Zad,Zau,Zbq,Zba,x_ao,Zbp,Zan,Za2,Zat,Zas,Za1,Zao,Zal,x_bm,Zbn,Zaz,Zbj,Zcd,Zaq,Za9,Za5,Zbe,Zbf] at q
 refine wpAny_isTrue_Compare1 (wpAny_mono (ha H s _ E S m q) (fun u s₁ z=>?_) fun _ _ z=>z) hm
 obtain ⟨au,H₁,hu,S₁,m₁,q₁⟩:=z
 refine wpAny_mono (hb H₁ s₁ _ E S₁ m₁ q₁) (fun v s₂ z=>?_) fun _ _ z=>z
 obtain ⟨av,H₂,hv,S₂,m₂,q₂⟩:=z
 refine wpAny_mono (Znf C ev hu hv S₂ m₂ q₂) (fun c s₃ z=>?_) fun _ _ z=>z
 obtain ⟨ac,H₃,hc,S₃,m₃,q₃⟩:=z
 exact Zgs hc S₃ m₃ q₃
theorem Zy6 {M:Model} {E:Value→Shared→Prop} {s:Shared} {pos:Pos} {a:Value} {op1 op2:CmpOp} {t₁ t₂:Sem Value} {Q:Value→Shared→Prop}
  (h:wpAny M A t₁ (fun b s₁=>wpAny M A (compareOp op1 a b) (fun c s₂=>wpAny M A (truthy c) (fun t s₃=>if t then wpAny M A t₂ (fun d s₄=>wpAny M A (compareOp op2 b d) Q E s₄) E s₃ else Q c s₃) E s₂) E s₁) E s) :
  wpAny M A (compareChain pos a [op1,op2] [t₁,t₂]) Q E s:=by
 show wpAny M A (do
  let rv ← holding [a] t₁
  standAt pos
  let c ← holding [a,rv] (compareOp op1 a rv)
  release [a,rv] [c]
  if ← holding [c,rv] (truthy c) then compareChain pos rv [op2] [t₂] else pure c) Q E s
 refine wpAny_bind (wpAny_holding (wpAny_mono h (fun b s₁ z=>?_) fun _ _ z=>z))
 refine wpAny_bind (wpAny_standAt (wpAny_bind (wpAny_holding (wpAny_mono z (fun c s₂ z=>?_) fun _ _ z=>z))))
 refine wpAny_bind (wpAny_release (wpAny_bind (wpAny_holding (wpAny_mono z (fun t s₃ z=>?_) fun _ _ z=>z))))
 cases t with
 | false=>exact wpAny_pure z
 | true =>
  show wpAny M A (do
   let rv ← holding [b] t₂
   standAt pos
   operate [b,rv] (compareOp op2 b rv)) Q E s₃
  exact wpAny_bind (wpAny_holding (wpAny_mono z (fun d s₄ z=>wpAny_bind (wpAny_standAt (wpAny_operating z))) fun _ _ z=>z))
theorem Zzi {M:Model} {E:Value→Shared→Prop} {s:Shared} {pos:Pos} {a:Value} {op1 op2:CmpOp} {t₁ t₂:Sem Value} {Q:Bool→Shared→Prop}
  (h:wpAny M A t₁ (fun b s₁=>wpAny M A (compareOp op1 a b) (fun c s₂=>wpAny M A (truthy c) (fun t s₃=>if t then wpAny M A t₂ (fun d s₄=>wpAny M A (compareOp op2 b d) (fun c' s5=>wpAny M A (truthy c') Q E s5) E s₄) E s₃ else Q false s₃) E s₂) E s₁) E s) :
  wpAny M A (testChain pos a [op1,op2] [t₁,t₂]) Q E s:=by
 show wpAny M A (do
  let rv ← holding [a] t₁
  standAt pos
  let c ← holding [a,rv] (compareOp op1 a rv)
  release [a,rv] [c]
  if ← holding [c,rv] (truthy c) then testChain pos rv [op2] [t₂] else pure false) Q E s
 refine wpAny_bind (wpAny_holding (wpAny_mono h (fun b s₁ z=>?_) fun _ _ z=>z))
 refine wpAny_bind (wpAny_standAt (wpAny_bind (wpAny_holding (wpAny_mono z (fun c s₂ z=>?_) fun _ _ z=>z))))
 refine wpAny_bind (wpAny_release (wpAny_bind (wpAny_holding (wpAny_mono z (fun t s₃ z=>?_) fun _ _ z=>z))))
 cases t with
 | false=>exact wpAny_pure z
 | true =>
  show wpAny M A (do
   let rv ← holding [b] t₂
   standAt pos
   let c ← operate [b,rv] (compareOp op2 b rv)
   holding [c] (truthy c)) Q E s₃
  exact wpAny_bind (wpAny_holding (wpAny_mono z (fun d s₄ z=>wpAny_bind (wpAny_standAt (wpAny_bind (wpAny_operating (wpAny_mono z (fun c' s5 z=>wpAny_holding z) fun _ _ z=>z))))) fun _ _ z=>z))
theorem Zv6 {op1 op2:CmpOp} {a b d:X} {l r₁ r₂:Expr} {p:Pos} (C:g.c.Ok mg mb) (ev:Ev g A R e₀ l₀) (hm:lastMarks [op1,op2] [r₁,r₂]=false)
  (ha:HX g A R V s₀ a (eval l env)) (hb:HX g A R V s₀ b (eval r₁ env)) (hd:HX g A R V s₀ d (eval r₂ env)) :
  HX g A R V s₀ (.cmp2 op1 op2 a b d) (eval (.Compare l [op1,op2] [r₁,r₂] p) env):=fun H s Q E S m q=>by
 dsimp only [Zai,Zad,Zau,Zbq,Zba,x_ao,Zbp,Zan,Za2,Zat,Zas,Za1,Zao,Zal,x_bm,Zbn,Zaz,Zbj,Zcd,Zaq,Za9,Za5,Zbe,Zbf] at q
 refine rl (arm_eval_Compare ..) (rl (markedEach_of_false _ _ _ hm ..) ?_)
 refine wpAny_bind (wpAny_mono (ha H s _ E S m q) (fun u s₁ z=>?_) fun _ _ z=>z)
 obtain ⟨au,H₁,hu,S₁,m₁,q₁⟩:=z
 refine Zy6 (wpAny_mono (hb H₁ s₁ _ E S₁ m₁ q₁) (fun v s₂ z=>?_) fun _ _ z=>z)
 obtain ⟨av,H₂,hv,S₂,m₂,q₂⟩:=z
 refine wpAny_mono (Znf C ev hu hv S₂ m₂ q₂) (fun c s₃ z=>?_) fun _ _ z=>z
 obtain ⟨ac,H₃,hc,S₃,m₃,q₃⟩:=z
 refine wpAny_mono (Zi5 (Qb:=fun t H=>if t then wpX g d V (fun z H=>wcmp op2 av z Q H) E H else Q ac H) hc S₃ m₃ q₃) (fun t s₄ z=>?_) fun _ _ z=>z
 obtain ⟨H₄,S₄,m4,q₄⟩:=z
 cases t with
 | false=>exact TQ.pure hc S₄ m4 q₄
 | true =>
  refine wpAny_mono (hd H₄ s₄ _ E S₄ m4 q₄) (fun w s5 z=>?_) fun _ _ z=>z
  obtain ⟨aw,H₅,hw,S₅,m5,q₅⟩:=z
  exact Znf C ev hv hw S₅ m5 q₅
theorem Zv9 {op1 op2:CmpOp} {a b d:X} {l r₁ r₂:Expr} {p:Pos} {whole:Sem Value} (C:g.c.Ok mg mb) (ev:Ev g A R e₀ l₀) (hm:lastMarks [op1,op2] [r₁,r₂]=false)
  (ha:HX g A R V s₀ a (eval l env)) (hb:HX g A R V s₀ b (eval r₁ env)) (hd:HX g A R V s₀ d (eval r₂ env)) :
  HT g A R V s₀ (.cmp2 op1 op2 a b d) (isTrue (.Compare l [op1,op2] [r₁,r₂] p) env whole):=fun H s Q E S m q=>by
 dsimp only [Zai,Zad,Zau,Zbq,Zba,x_ao,Zbp,Zan,Za2,Zat,Zas,Za1,Zao,Zal,x_bm,Zbn,Zaz,Zbj,Zcd,Zaq,Za9,Za5,Zbe,Zbf] at q
 refine rl (arm_isTrue_Compare ..) (rl (markedEach_of_false _ _ _ hm ..) ?_)
 refine wpAny_bind (wpAny_mono (ha H s _ E S m q) (fun u s₁ z=>?_) fun _ _ z=>z)
 obtain ⟨au,H₁,hu,S₁,m₁,q₁⟩:=z
 refine Zzi (wpAny_mono (hb H₁ s₁ _ E S₁ m₁ q₁) (fun v s₂ z=>?_) fun _ _ z=>z)
 obtain ⟨av,H₂,hv,S₂,m₂,q₂⟩:=z
 refine wpAny_mono (Znf C ev hu hv S₂ m₂ q₂) (fun c s₃ z=>?_) fun _ _ z=>z
 obtain ⟨ac,H₃,hc,S₃,m₃,q₃⟩:=z
 refine wpAny_mono (Zgs (Q:=fun ac t H=>if t then wpX g d V (fun z H=>wcmp op2 av z (fun v H=>Zbm v H fun b=>Q v b H) H) E H else Zbm ac H fun b=>Q ac b H) hc S₃ m₃ q₃) (fun t s₄ z=>?_) fun _ _ z=>z
 obtain ⟨ac',H₄,S₄,m4,q₄,hb4⟩:=z
 cases t with
 | false =>
  simp only [Bool.false_eq_true,if_false] at q₄ ⊢
  exact ⟨ac',H₄,S₄,m4,hb4 _ q₄,hb4⟩
 | true =>
  simp only [if_true] at q₄ ⊢
  refine wpAny_mono (hd H₄ s₄ _ E S₄ m4 q₄) (fun w s5 z=>?_) fun _ _ z=>z
  obtain ⟨aw,H₅,hw,S₅,m5,q₅⟩:=z
  refine wpAny_mono (Znf C ev hv hw S₅ m5 q₅) (fun c' s6 z=>?_) fun _ _ z=>z
  obtain ⟨ac'',H₆,hc'',S₆,m6,q6⟩:=z
  exact Zgs hc'' S₆ m6 q6
inductive Each (P:X→Expr→Prop):List X→List Expr→Prop
 | nil:Each P [] []
 | cons {x e xs es}:P x e→Each P xs es→Each P (x::xs) (e::es)
theorem Z0e {isAnd:Bool} {p:Pos} {xs:List X} {es:List Expr} (h:Each (fun x e=>HX g A R V s₀ x (eval e env)) xs es):HX g A R V s₀ (.ao isAnd xs) (boolOp p (if isAnd then .And else .Or) (evalEach es env)):=by
 induction h with
 | nil=>exact fun H s Q E S m q=>q.elim
 | @cons x e _ _ hx r ih =>
 cases r with
 | nil =>
  intro H s Q E S m q
  dsimp only [Zai,Zad,Zau,Zbq,Zba,x_ao,Zbp,Zan,Za2,Zat,Zas,Za1,Zao,Zal,x_bm,Zbn,Zaz,Zbj,Zcd,Zaq,Za9,Za5,Zbe,Zbf,Za7,Zav] at q
  show wpAny _ _ (eval e env) _ _ _
  exact hx H s Q E S m q
 | @cons y f xs es hy r =>
  intro H s Q E S m q
  dsimp only [Zai,Zad,Zau,Zbq,Zba,x_ao,Zbp,Zan,Za2,Zat,Zas,Za1,Zao,Zal,x_bm,Zbn,Zaz,Zbj,Zcd,Zaq,Za9,Za5,Zbe,Zbf] at q ih
  rw [Zav] at q
  show wpAny _ _ (do
   let v ← eval e env
   standAt p
   let t ← holding [v] (truthy v)
   match (if isAnd then PySem.BoolOp.And else PySem.BoolOp.Or),t with
   | .And,false | .Or,true=>pure v
   | _,_=>boolOp p (if isAnd then .And else .Or) (evalEach (f::es) env)) _ _ _
  refine wpAny_bind (wpAny_mono (hx H s _ E S m q) (fun v s₁ z=>?_) fun _ _ z=>z)
  obtain ⟨av,H₁,hv,S₁,m₁,q₁⟩:=z
  refine wpAny_bind (wpAny_standAt (wpAny_bind (wpAny_holding (wpAny_mono (Zi5 (Qb:=fun b H=>if b=isAnd then wpAO g isAnd (y::xs) V Q E H else Q av H) hv S₁ m₁ q₁) (fun t s₂ z=>?_) fun _ _ z=>z))))
  obtain ⟨H₂,S₂,m₂,q₂⟩:=z
  have ih':=ih H₂ s₂ Q E S₂ m₂
  dsimp only [Zai,Zad,Zau,Zbq,Zba,x_ao,Zbp,Zan,Za2,Zat,Zas,Za1,Zao,Zal,x_bm,Zbn,Zaz,Zbj,Zcd,Zaq,Za9,Za5,Zbe,Zbf] at ih'
  cases isAnd<;>cases t<;>simp only [Bool.false_eq_true,if_false,if_true,reduceIte] at q₂ ih' ⊢
  ·exact ih' q₂
  ·exact wpAny_pure (TQ.pure hv S₂ m₂ q₂)
  ·exact wpAny_pure (TQ.pure hv S₂ m₂ q₂)
  ·exact ih' q₂
theorem Z0f {isAnd:Bool} {xs:List X} {es:List Expr} (h:Each (fun x e=>HT g A R V s₀ x (isTrue e env (eval e env))) xs es):HT g A R V s₀ (.ao isAnd xs) (allTrue (if isAnd then .And else .Or) es env):=by
 induction h with
 | nil=>exact fun H s Q E S m q=>q.elim
 | @cons x e _ _ hx r ih =>
 cases r with
 | nil =>
  intro H s Q E S m q
  dsimp only [Zai,Zad,Zau,Zbq,Zba,x_ao,Zbp,Zan,Za2,Zat,Zas,Za1,Zao,Zal,x_bm,Zbn,Zaz,Zbj,Zcd,Zaq,Za9,Za5,Zbe,Zbf,Za7,Zav] at q
  refine rl (arm_allTrue_cons ..) ?_
  refine wpAny_bind (wpAny_mono (hx H s Q E S m q) (fun t s₁ z=>?_) fun _ _ z=>z)
  cases isAnd<;>cases t<;>exact wpAny_pure z
 | @cons y f xs es hy r =>
  intro H s Q E S m q
  dsimp only [Zai,Zad,Zau,Zbq,Zba,x_ao,Zbp,Zan,Za2,Zat,Zas,Za1,Zao,Zal,x_bm,Zbn,Zaz,Zbj,Zcd,Zaq,Za9,Za5,Zbe,Zbf] at q
  rw [Zav] at q
  refine rl (arm_allTrue_cons ..) ?_
  refine wpAny_bind (wpAny_mono (hx H s (fun v b H=>if b=isAnd then wpAO g isAnd (y::xs) V (fun v H=>Zbm v H fun b=>Q v b H) E H else Zbm v H fun b=>Q v b H) E S m q) (fun t s₁ z=>?_) fun _ _ z=>z)
  obtain ⟨v,H₁,S₁,m₁,q₁,hb⟩:=z
  have ih':=ih H₁ s₁ Q E S₁ m₁
  dsimp only [Zai,Zad,Zau,Zbq,Zba,x_ao,Zbp,Zan,Za2,Zat,Zas,Za1,Zao,Zal,x_bm,Zbn,Zaz,Zbj,Zcd,Zaq,Za9,Za5,Zbe,Zbf] at ih'
  cases isAnd<;>cases t<;>simp only [Bool.false_eq_true,if_false,if_true,reduceIte] at q₁ ih' ⊢
  ·exact ih' q₁
  ·exact wpAny_pure ⟨v,H₁,S₁,m₁,hb (fun b=>Q v b H₁) q₁,hb⟩
  ·exact wpAny_pure ⟨v,H₁,S₁,m₁,hb (fun b=>Q v b H₁) q₁,hb⟩
  ·exact ih' q₁
end
end Mine
end
section
namespace Mine
theorem Zbg {e:Expr} {r:List Expr} {env:Env} (h:Zc2 e=true):starEach (e::r) env=(false,eval e env)::starEach r env:=by
 cases e<;>first | rfl | exact Bool.noConfusion h
theorem Zch {pos:Pos} {t:Sem Value} {r:List (Bool×Sem Value)}:backTo pos ((false,t)::r)=(false,t)::backTo pos r:=rfl
section
variable {g:Gx} {A:Around} {R:RR} {V:VV} {s₀:Shared} {env:Env} {mg mb:Str→Option Value} {e₀:Env} {l₀:List Env}
abbrev Zfi (g:Gx) (A:Around) (R:RR) (V:VV) (s₀:Shared) (env:Env):List X→List Expr→Prop:=Each (fun x e=>HX g A R V s₀ x (eval e env)∧Zc2 e=true)
theorem hxs {pos:Pos} {xs:List X} {es:List Expr} (h:Zfi g A R V s₀ env xs es):HXs g A R V s₀ xs (spliced (backTo pos (starEach es env))):=by
 induction h with
 | nil =>
  intro H s Q E S m q
  exact spliced_nil ⟨[],H,.nil,S,m,q⟩
 | cons hx r ih =>
  intro H s Q E S m q
  dsimp only [Zah,Zae] at q
  (refine rl (Zbg hx.2) ?_;dsimp only [Zch])
  refine spliced_cons (wpAny_mono (hx.1 H s _ E S m q) (fun v s₁ z=>?_) fun _ _ z=>z)
  obtain ⟨av,H₁,hv,S₁,m₁,q₁⟩:=z
  refine wpAny_mono (ih H₁ s₁ _ E S₁ m₁ q₁) (fun vs s₂ z=>?_) fun _ _ z=>z
  obtain ⟨as,H₂,hvs,S₂,m₂,q₂⟩:=z
  exact ⟨av::as,H₂,.cons hv hvs,S₂,m₂,q₂⟩
theorem Zgb {pos:Pos} {xs:List X} {es:List Expr} (h:Zfi g A R V s₀ env xs es):(backTo pos (starEach es env)).any (·.1)=false:=by
 induction h with
 | nil=>rfl
 | cons hx r ih=>(refine rl (Zbg hx.2) ?_;dsimp only [Zch];refine rl List.any_cons (rl ih ?_));rfl
theorem Zl4 {pos:Pos} {f:Value} {xs:List X} {es:List Expr} {H:Zaa} {s:Shared} {Q':List AV→Zaa→Prop} {E:String→Zaa→Prop} {Q:Args→Shared→Prop} (hx:Zfi g A R V s₀ env xs es) (S:St g.c R H s.heap) (m:Sm s₀ s)
  (q:wpXs g xs V Q' E H) (k:∀ as vs H' s',VRs as vs→St g.c R H' s'.heap→Sm s₀ s'→Q' as H'→Q ⟨vs,[]⟩ s') :
  wpAny (model g.c.prog g.c.w) A (evalArgs f true (backTo pos (starEach es env)) []) Q (TE g R s₀ E) s:=by
 have z:=hxs (pos:=pos) hx H s Q' E S m q
 cases hx with
 | nil =>
  simp only [Zah,Zae] at q
  exact evalArgs_nil3 (k [] [] H s .nil S m q)
 | cons hx r =>
  rw [Zbg hx.2,Zch] at z ⊢
  refine evalArgs_plain (wpAny_mono z (fun vs s' z=>?_) fun _ _ z=>z)
  obtain ⟨as,H',h1,h2,h3,h4⟩:=z
  exact k as vs H' s' h1 h2 h3 h4
theorem Zq6 {pos:Pos} {f:Addr} {first:List Value} {xs:List X} {es:List Expr} {H:Zaa} {s:Shared} {Q':List AV→Zaa→Prop} {E:String→Zaa→Prop} {Q:Value→Shared→Prop} (C:g.c.Ok mg mb) (hk:keepIn g.c.K (.ref f)=true)
  (hx:Zfi g A R V s₀ env xs es) (S:St g.c R H s.heap) (m:Sm s₀ s) (q:wpXs g xs V Q' E H)
  (k:∀ as vs H' s',VRs as vs→St g.c R H' s'.heap→Sm s₀ s'→Q' as H'→wpAny (model g.c.prog g.c.w) A (call (.ref f) (first++vs)) Q (TE g R s₀ E) s') :
  wpAny (model g.c.prog g.c.w) A (callWith pos (.ref f) first (backTo pos (starEach es env)) []) Q (TE g R s₀ E) s :=
 callWith_of (P:=fun h=>g.c.K.In h) (by refine rl (Zgb hx) ?_;rfl) (keeps_K hk) (Zl4 hx S m q fun as vs H' s' h1 h2 h3 h4=>⟨C.kin.keeps h2.stays,k as vs H' s' h1 h2 h3 h4⟩)
theorem Zq7 {pos:Pos} {f:Value} {first:List Value} {xs:List X} {es:List Expr} {H:Zaa} {s:Shared} {Q':List AV→Zaa→Prop} {E:String→Zaa→Prop} {Q:Value→Shared→Prop} (hf:(∃ i,f = .builtin i)∨∃ i,f = .type i)
  (hx:Zfi g A R V s₀ env xs es) (S:St g.c R H s.heap) (m:Sm s₀ s) (q:wpXs g xs V Q' E H)
  (k:∀ as vs H' s',VRs as vs→St g.c R H' s'.heap→Sm s₀ s'→Q' as H'→wpAny (model g.c.prog g.c.w) A (call f (first++vs)) Q (TE g R s₀ E) s') :
  wpAny (model g.c.prog g.c.w) A (callWith pos f first (backTo pos (starEach es env)) []) Q (TE g R s₀ E) s:=by
 rcases hf with ⟨i,rfl⟩ | ⟨i,rfl⟩
 ·exact Calls.callWith_builtin (Zgb hx) (Zl4 hx S m q k)
 ·exact PyProof.Rows.callWith_type (Zgb hx) (Zl4 hx S m q k)
theorem Zea {sc:Scope} {n:String} {e:Expr} (h:Zby sc n e=true):∃ id p,e = .Name id p:=by
 exact Zb8 (m:=fun e=>∃ id p,e = .Name id p) h fun id p _=>⟨id,p,rfl⟩
theorem Zky {f:String} {as:List AV} {vs:List Value} {H:Zaa} {s:Shared} {Q:AV→Zaa→Prop} {E:String→Zaa→Prop} (ev:Ev g A R e₀ l₀) (hv:VRs as vs) (S:St g.c R H s.heap) (m:Sm s₀ s)
  (q:CallOK g.c g.n g.md f as Q E H):wpAny (model g.c.prog g.c.w) A (call (.ref (g.c.fa f)) vs) (TQ g R s₀ Q) (TE g R s₀ E) s:=by
 refine wpAny_call (q A (e₀::l₀) R s vs _ ⟨ev.aok.frames,by have:=ev.aok.depth;lia,by have:=ev.aok.units;lia,ev.aok.hand⟩ ev.stk S hv ?_ ?_)
 ·exact fun av v s' H' h1 h2 h3 h4=>⟨av,H',h1,h2,m.trans h3,h4⟩
 ·exact fun e cl s' H' h1 h2 h3=>⟨e,cl,H',rfl,h1,m.trans h2,h3⟩
theorem Zv7 {sc:Scope} {nm:List Str} {f:String} {fe:Expr} {args:List Expr} {xs:List X} {pos:Pos} (C:g.c.Ok mg mb) (PO:PgOk g.c) (ev:Ev g A R e₀ l₀) (fr:Frm R env sc nm V) (hn:Zby sc f fe=true)
  (hg:g.c.P.gfns.contains f=true) (hx:Zfi g A R V s₀ env xs args):HX g A R V s₀ (.call f xs) (eval (.Call fe args [] pos) env):=fun H s Q E S m q=>by
 dsimp only [Zai,Zad,Zau,Zbq,Zba,x_ao,Zbp,Zan,Za2,Zat,Zas,Za1,Zao,Zal,x_bm,Zbn,Zaz,Zbj,Zcd,Zaq,Za9,Za5,Zbe,Zbf] at q
 obtain ⟨h1,h2⟩:=PO.fn f hg
 obtain ⟨id,p,rfl⟩:=Zea hn
 refine wpAny_Call_NameR (Zip C fr S hn h1 ?_)
 refine Zq6 C h2 hx S m q fun as vs H' s' k1 k2 k3 k4=>?_
 exact Zky ev k1 k2 k3 k4
theorem Zv1 {sc:Scope} {nm:List Str} {f:Pr} {fe:Expr} {args:List Expr} {xs:List X} {pos:Pos} (C:g.c.Ok mg mb) (PO:PgOk g.c) (ev:Ev g A R e₀ l₀) (fr:Frm R env sc nm V) (hn:Zby sc f.str fe=true)
  (hg:g.c.P.prims.contains f.str=true) (hx:Zfi g A R V s₀ env xs args):HX g A R V s₀ (.prim f xs) (eval (.Call fe args [] pos) env):=fun H s Q E S m q=>by
 dsimp only [Zai,Zad,Zau,Zbq,Zba,x_ao,Zbp,Zan,Za2,Zat,Zas,Za1,Zao,Zal,x_bm,Zbn,Zaz,Zbj,Zcd,Zaq,Za9,Za5,Zbe,Zbf] at q
 obtain ⟨h1,h2,h3⟩:=PO.prim f.str hg
 rw [Zj4] at h3
 obtain ⟨id,p,rfl⟩:=Zea hn
 refine wpAny_Call_NameR (Zmx C fr S hn h1 h2 h3 ?_)
 exact Zq7 (Znl f) hx S m q fun as vs H' s' k1 k2 k3 k4=>Zxa C ev k1 k2 k3 k4
theorem Zqj {sc:Scope} {nm:List Str} {ty:String} {fe t x:Expr} {a:X} {pos:Pos} {tv:Value} (C:g.c.Ok mg mb) (PO:PgOk g.c) (fr:Frm R env sc nm V) (hn:Zby sc "isinstance" fe=true) (hg:g.c.P.prims.contains "isinstance" = true)
  (hst:Zc2 t=true) (ht:∀ {H:Zaa} {s:Shared} {Q:Value→Shared→Prop} {E:Value→Shared→Prop},St g.c R H s.heap→Q tv s→wpAny (model g.c.prog g.c.w) A (eval t env) Q E s) (hx:HX g A R V s₀ a (eval x env)) (hs:Zc2 x=true)
  (k:∀ {av:AV} {v:Value} {H:Zaa} {s:Shared} {Q:AV→Zaa→Prop} {E:String→Zaa→Prop} {b:Bool},VR av v→St g.c R H s.heap→Sm s₀ s→Zbx g.c.P H av ty=some b→Q (.bool b) H→wpAny (model g.c.prog g.c.w) A (call (.builtin "isinstance") [v,tv]) (TQ g R s₀ Q) (TE g R s₀ E) s) :
  HX g A R V s₀ (.isinst a ty) (eval (.Call fe [x,t] [] pos) env):=fun H s Q E S m q=>by
 replace q:wpX g a V (fun x H=>wisi g.c.P ty x Q H) E H:=q
 obtain ⟨h1,h2,h3⟩:=PO.prim _ hg
 refine Zmm (m:=fun fe=>wpAny (model g.c.prog g.c.w) A (eval (.Call fe [x,t] [] pos) env) (TQ g R s₀ Q) (TE g R s₀ E) s) hn fun id p hn=>?_
 refine wpAny_Call_NameR (Zmx C fr S hn h1 h2 h3 ?_)
 refine Calls.callWith_builtin (by refine rl (Zbg hs) (rl (Zbg hst) ?_);rfl) ?_
 (refine rl (Zbg hs) ?_;dsimp only [Zch];refine rl (Zbg hst) ?_;dsimp only [Zch])
 refine evalArgs_plain (spliced_cons (wpAny_mono (hx H s _ E S m q) (fun v s₁ z=>?_) fun _ _ z=>z))
 obtain ⟨av,H₁,hv,S₁,m₁,q₁⟩:=z
 refine spliced_cons (ht S₁ (spliced_nil ?_))
 unfold wisi at q₁
 cases hb:Zbx g.c.P H₁ av ty with
 | none=>rw [hb] at q₁;exact q₁.elim
 | some b=>rw [hb] at q₁;exact k hv S₁ m₁ hb q₁
theorem Zhn {sc:Scope} {n:String} {e:Expr} (h:Zby sc n e=true):Zc2 e=true:=Zb8 (m:=fun e=>Zc2 e=true) h fun _ _ _=>rfl
theorem Zyk {sc:Scope} {nm:List Str} {ty:String} {fe t x:Expr} {a:X} {pos:Pos} (C:g.c.Ok mg mb) (PO:PgOk g.c) (fr:Frm R env sc nm V) (hn:Zby sc "isinstance" fe=true) (hg:g.c.P.prims.contains "isinstance" = true)
  (ht:g.c.P.prims.contains ty=true) (hn':Zby sc ty t=true) (hty:ty = "int"∨ty = "bool"∨ty = "str"∨ty = "list") (hx:HX g A R V s₀ a (eval x env)) (hs:Zc2 x=true) :
  HX g A R V s₀ (.isinst a ty) (eval (.Call fe [x,t] [] pos) env):=by
 obtain ⟨k1,k2,k3⟩:=PO.prim _ ht
 have hp:Zgt ty = .type ty:=by rcases hty with rfl | rfl | rfl | rfl<;>rfl
 rw [hp] at k3
 refine Zqj C PO fr hn hg (Zhn hn') (fun S q=>Zmx C fr S hn' k1 k2 k3 q) hx hs fun hv S m hb q=>?_
 unfold Zbx at hb
 rw [if_pos hty] at hb
 obtain ⟨k,e1,e2⟩:=Option.map_eq_some_iff.mp hb
 exact Zzw hv S m e1 hty e2 q
theorem Zye {a i:X} {v sl:Expr} {pos:Pos} (C:g.c.Ok mg mb) (hns:Zhl sl=true) (ha:HX g A R V s₀ a (eval v env)) (hi:HX g A R V s₀ i (eval sl env)):HX g A R V s₀ (.sub a i) (eval (.Subscript v sl pos) env) :=
 fun H s Q E S m q=>by
 dsimp only [Zai,Zad,Zau,Zbq,Zba,x_ao,Zbp,Zan,Za2,Zat,Zas,Za1,Zao,Zal,x_bm,Zbn,Zaz,Zbj,Zcd,Zaq,Za9,Za5,Zbe,Zbf] at q
 refine Subscript_ (wpAny_mono (ha H s _ E S m q) (fun u s₁ z=>?_) fun _ _ z=>z)
 obtain ⟨au,H₁,hu,S₁,m₁,q₁⟩:=z
 refine wpAny_mono (hi H₁ s₁ _ E S₁ m₁ q₁) (fun w s₂ z=>?_) fun _ _ z=>z
 obtain ⟨aw,H₂,hw,S₂,m₂,q₂⟩:=z
 exact Zzr C hu hw S₂ m₂ q₂ (by intro o j;cases sl<;>first | rfl | exact Bool.noConfusion hns)
noncomputable def HO (g:Gx) (A:Around) (R:RR) (V:VV) (s₀:Shared) (env:Env):Option X→Option Expr→Prop
 | none,none=>True
 | some x,some e=>HX g A R V s₀ x (eval e env)
 | _,_=>False
theorem Zwb {o:Option X} {oe:Option Expr} {H:Zaa} {s:Shared} {Q:Option AV→Zaa→Prop} {E:String→Zaa→Prop} (h:HO g A R V s₀ env o oe) (S:St g.c R H s.heap) (m:Sm s₀ s) (q:wpO g o V Q E H) :
  wpAny (model g.c.prog g.c.w) A (valueOrNone (evalOpt oe env)) (fun v s'=>∃ a H',((a=none∧v = .none)∨∃ x,a=some x∧VR x v)∧St g.c R H' s'.heap∧Sm s₀ s'∧Q a H') (TE g R s₀ E) s:=by
 cases o with
 | none=>cases oe with
  | none=>exact wpAny_pure ⟨none,H,.inl ⟨rfl,rfl⟩,S,m,q⟩
  | some=>exact h.elim
 | some x=>cases oe with
  | none=>exact h.elim
  | some e =>
   rw [Zb0] at q
   refine wpAny_mono (h H s _ E S m q) (fun v s' z=>?_) fun _ _ z=>z
   obtain ⟨a,H',hv,S',m',q'⟩:=z
   exact ⟨some a,H',.inr ⟨a,rfl,hv⟩,S',m',q'⟩
theorem Zs8 {a:X} {lo hi st:Option X} {v:Expr} {l u t:Option Expr} {p pos:Pos} (ha:HX g A R V s₀ a (eval v env)) (hl:HO g A R V s₀ env lo l) (hu:HO g A R V s₀ env hi u) (ht:HO g A R V s₀ env st t) :
  HX g A R V s₀ (.slice a lo hi st) (eval (.Subscript v (.Slice l u t p) pos) env):=fun H s Q E S m q=>by
 dsimp only [Zai,Zad,Zau,Zbq,Zba,x_ao,Zbp,Zan,Za2,Zat,Zas,Za1,Zao,Zal,x_bm,Zbn,Zaz,Zbj,Zcd,Zaq,Za9,Za5,Zbe,Zbf] at q
 refine Subscript_ (wpAny_mono (ha H s _ E S m q) (fun o s₁ z=>?_) fun _ _ z=>z)
 obtain ⟨ao,H₁,ho,S₁,m₁,q₁⟩:=z
 refine rl (arm_eval_Slice ..) ?_
 refine wpAny_bind (wpAny_mono (Zwb hl S₁ m₁ q₁) (fun vl s₂ z=>?_) fun _ _ z=>z)
 obtain ⟨al,H₂,hvl,S₂,m₂,q₂⟩:=z
 refine wpAny_bind (wpAny_holding (wpAny_mono (Zwb hu S₂ m₂ q₂) (fun vu s₃ z=>?_) fun _ _ z=>z))
 obtain ⟨au,H₃,hvu,S₃,m₃,q₃⟩:=z
 refine wpAny_bind (wpAny_holding (wpAny_mono (Zwb ht S₃ m₃ q₃) (fun vt s₄ z=>?_) fun _ _ z=>z))
 obtain ⟨at',H₄,hvt,S₄,m4,q₄⟩:=z
 unfold newFields
 refine wpAny_newObj_type ?_ (by show (3:Nat)≤sizeLine+2;exact Nat.le_of_ble_eq_true (by rfl))
 exact Zu5 ho hvl hvu hvt S₄ m4 q₄
theorem Zql {a:AV} {v:Value} (h:VR a v):handedIn v=true:=by cases h<;>rfl
theorem Zgh {a b:String} (h:Str.ofString a=Str.ofString b):a=b:=by
 rw [Str.ofString_eq_toList,Str.ofString_eq_toList] at h
 have h1:=congrArg (fun x:Str=>x.cps.toList) h
 dsimp only [List.toList_toArray] at h1
 have h2:=(List.map_inj_right (f:=Char.toNat) fun x y e=>Char.ext (UInt32.toNat_inj.mp e)).mp h1
 exact String.ext h2
theorem Zgc {n:String} {es:List (String×AV)} {ents:List DictEntry} (h:Zcf es ents):OVR (Zeb es n) ((ents.find? (·.key.isStr (Str.ofString n))).map (·.val))∧(ents.any (·.refKey))=false:=by
 induction es generalizing ents with
 | nil=>cases ents with
  | nil=>exact ⟨.none,rfl⟩
  | cons=>exact h.elim
 | cons na r ih =>
  cases ents with
  | nil=>exact h.elim
  | cons e q =>
  obtain ⟨n',a⟩:=na
  obtain ⟨⟨t,hk⟩,hv,hr⟩:=h
  obtain ⟨i1,i2⟩:=ih hr
  refine ⟨?_,?_⟩
  ·unfold Zeb at i1 ⊢
   simp only [List.find?_cons,hk,Value.isStr]
   by_cases z:n'=n
   ·subst z;simp;exact .some hv
   ·have:(Str.ofString n'==Str.ofString n)=false:=by
     apply beq_eq_false_iff_ne.mpr
     intro w
     exact z (Zgh w)
    simp only [this,z];exact i1
  ·refine rl List.any_cons (rl i2 ?_)
   simp [DictEntry.refKey,hk]
theorem Zk4 {v:Expr} {at':Str} (hb:Zf1 v=true):attributeBase v at' env (eval v env)=eval v env:=by
 cases v with
 | Call f as ks p=>exact Zez (m:=fun f=>attributeBase (.Call f as ks p) at' env (eval (.Call f as ks p) env)=eval (.Call f as ks p) env) (show (Zif f fun _ _ _=>true)=true from hb) fun _ _ _ _=>rfl
 | _=>rfl
inductive Ztx (c:Cx) (h:Heap) (p:Addr) (cl:String) (es:List (String×AV)):Prop
 | mk {d ents k} (I:InstAt h p (instObj (c.ca cl) d) (c.ca cl) (some (dictOf ents k))) (a:Zcf es ents):Ztx c h p cl es
theorem Zue {H:Zaa} {h:Heap} {p:Addr} {cl:String} {es:List (String×AV)} (S:St g.c R H h) (e:H p=some (.inst cl es)):Ztx g.c h p cl es:=by
 obtain ⟨d,ents,k,x1,x2,x3,x4,_⟩:=S.setAttr e
 exact .mk ⟨x1,rfl,rfl,x2⟩ x3
theorem Zts {H:Zaa} {h:Heap} {n:String} {x:AV} {u:Value} {Q:AV→Zaa→Prop} {m:Value→Prop} (S:St g.c R H h) (ho:VR x u) (q:Zru g.c.P n x Q H)
  (f:∀ p cl es v,g.c.P.attrs.contains (cl,n)=true→Ztx g.c h p cl es→Zeb es n=some v→Q v H→m (.ref p)):m u:=by
 cases ho with
 | ref p =>
  obtain ⟨oo,e⟩:∃ oo,H p=oo:=⟨_,rfl⟩
  dsimp only [Zru] at q
  rw [e] at q
  cases oo with
  | none=>exact q.elim
  | some oo=>cases oo with
   | inst cl es =>
    obtain ⟨hat,q⟩:=q
    cases hw:Zeb es n with
    | none=>rw [hw] at q;exact q.elim
    | some w=>rw [hw] at q;exact f p cl es w hat (Zue S e) hw q
   | book B =>
    obtain ⟨rfl,hat,q⟩:=q
    obtain ⟨fr,sa,pa,d,ents,k,x1,x2,x3⟩:=S.bookAttr e
    exact f p "Book" _ _ hat (.mk ⟨x1,rfl,rfl,x2⟩ x3) rfl q
   | _=>exact q.elim
 | _=>exact q.elim
theorem Zst {H:Zaa} {h:Heap} {n:String} {x:AV} {u:Value} {K:String→Addr→Zaa→Prop} {m:Value→Prop} (S:St g.c R H h) (ho:VR x u) (q:Zrr g.c.P n x K H)
  (f:∀ p cl es,g.c.P.meths.contains (cl,n)=true→Ztx g.c h p cl es→Zeb es n=none→K (cl++"."++n) p H→m (.ref p)):m u:=by
 cases ho with
 | ref p =>
  obtain ⟨oo,e⟩:∃ oo,H p=oo:=⟨_,rfl⟩
  dsimp only [Zrr] at q
  rw [e] at q
  cases oo with
  | none=>exact q.elim
  | some oo=>cases oo with
   | inst cl es=>exact f p cl es q.1 (Zue S e) q.2.1 q.2.2
   | book B =>
    obtain ⟨hat,hno,q⟩:=q
    obtain ⟨fr,sa,pa,d,ents,k,x1,x2,x3⟩:=S.bookAttr e
    refine f p "Book" _ hat (.mk ⟨x1,rfl,rfl,x2⟩ x3) ?_ q
    simp only [bookAttrs,List.contains_cons,List.contains_nil,Bool.or_false,Bool.or_eq_false_iff,beq_eq_false_iff_ne] at hno
    obtain ⟨n1,n2,n3,n4⟩:=hno
    simp [Zeb,n1.symm,n2.symm,n3.symm,n4.symm]
   | _=>exact q.elim
 | _=>exact q.elim
theorem Zv8 {a:X} {n:String} {v:Expr} {pos:Pos} (C:g.c.Ok mg mb) (PO:PgOk g.c) (hb:Zf1 v=true) (ha:HX g A R V s₀ a (eval v env)):HX g A R V s₀ (.attr a n) (eval (.Attribute v (Str.ofString n) pos) env) :=
 fun H s Q E S m q=>by
 replace q:wpX g a V (fun x H=>Zru g.c.P n x Q H) E H:=q
 refine rl (arm_eval_Attribute ..) (rl (Zk4 hb ..) ?_)
 refine wpAny_bind (wpAny_mono (ha H s _ E S m q) (fun o s₁ z=>?_) fun _ _ z=>z)
 obtain ⟨ao,H₁,ho,S₁,m₁,q₁⟩:=z
 refine wpAny_bind (wpAny_standAt (wpAny_bind (wpAny_holding ?_)))
 refine Zts (m:=fun o=>wpAny (model g.c.prog g.c.w) A (getAttr o (Str.ofString n) true) (fun a s'=>wpAny (model g.c.prog g.c.w) A (do letTemporaryGo v o a;pure a) (TQ g R s₀ Q) (TE g R s₀ E) s') (TE g R s₀ E) s₁) S₁ ho q₁ fun p cl es w hat O hw q₁=>?_
 obtain ⟨c1,c2,c3,_⟩:=PO.attr cl n hat
 obtain ⟨I,x3⟩:=O
 obtain ⟨f1,f2⟩:=Zgc (n:=n) x3
 rw [hw] at f1
 generalize hf:(List.find? (fun x:DictEntry=>x.key.isStr (Str.ofString n)) _)=fe at f1
 cases fe with
 | none=>cases f1
 | some en =>
  cases f1 with
  | some hv =>
   refine get_value (v:=en.val) (C.kin.keeps S₁.stays) I (plainGet_of c1).1 (findObj_own c2 c3 rfl ?_) ?_ ?_
   ·rw [lookIn_dict];unfold getL;rw [hf]
   ·exact Zql hv
   ·exact wpAny_bind (wpAny_letTemporaryGo (wpAny_pure (TQ.toks hv S₁ m₁ q₁)))
end
end Mine
end
section
namespace Mine
section
variable {g:Gx} {A:Around} {R:RR} {V:VV} {s₀:Shared} {env:Env} {mg mb:Str→Option Value} {e₀:Env} {l₀:List Env}
theorem hxsL {pos:Pos} {xs:List X} {es:List Expr} (h:Zfi g A R V s₀ env xs es):∀ (H:Zaa) (s:Shared) (Q:List AV→Zaa→Prop) (E:String→Zaa→Prop),St g.c R H s.heap→Sm s₀ s→wpXs g xs V Q E H →
  wpAny (model g.c.prog g.c.w) A (spliced (backTo pos (starEach es env))) (fun vs s'=>vs.length=es.length∧TQs g R s₀ Q vs s') (TE g R s₀ E) s:=by
 induction h with
 | nil=>exact fun H s Q E S m q=>spliced_nil ⟨rfl,[],H,.nil,S,m,q⟩
 | cons hx r ih =>
  intro H s Q E S m q
  dsimp only [Zah,Zae] at q
  (refine rl (Zbg hx.2) ?_;dsimp only [Zch])
  refine spliced_cons (wpAny_mono (hx.1 H s _ E S m q) (fun v s₁ z=>?_) fun _ _ z=>z)
  obtain ⟨av,H₁,hv,S₁,m₁,q₁⟩:=z
  refine wpAny_mono (ih H₁ s₁ _ E S₁ m₁ q₁) (fun vs s₂ z=>?_) fun _ _ z=>z
  obtain ⟨hl,as,H₂,hvs,S₂,m₂,q₂⟩:=z
  exact ⟨congrArg Nat.succ hl,av::as,H₂,.cons hv hvs,S₂,m₂,q₂⟩
theorem Zv3 {xs:List X} {es:List Expr} {pos:Pos} (hx:Zfi g A R V s₀ env xs es) (hl:es.length<1000):HX g A R V s₀ (.list xs) (eval (.List es pos) env):=fun H s Q E S m q=>by
 dsimp only [Zai,Zad,Zau,Zbq,Zba,x_ao,Zbp,Zan,Za2,Zat,Zas,Za1,Zao,Zal,x_bm,Zbn,Zaz,Zbj,Zcd,Zaq,Za9,Za5,Zbe,Zbf] at q
 refine wpAny_List (wpAny_mono (hxsL hx H s _ E S m q) (fun vs s₁ z=>?_) fun _ _ z=>z)
 obtain ⟨hn,as,H₁,hv,S₁,m₁,q₁⟩:=z
 refine ⟨by refine rl hn ?_;unfold sizeLine;lia,?_⟩
 obtain ⟨e,S'⟩:=S₁.newObj (o:=.list as) (Nat.le_refl _) (fun _ _ z=>Heap.get?_push_of_some _ z) (by refine rl (Heap.size_push ..) ?_;lia) (by intro _ _ z;contradiction) (fun D=>⟨vs,0,Heap.get?_push_size _ rfl,hv⟩)
 exact ⟨_,_,.ref _,S',m₁.heap _,q₁ _ e⟩
theorem Zs7 {xs:List X} {es:List Expr} {k:Nat} {pos:Pos} (hx:Zfi g A R V s₀ env xs es) (hl:es.length<1000):HX g A R V s₀ (.tuple xs) (eval (.Tuple es k pos) env):=fun H s Q E S m q=>by
 dsimp only [Zai,Zad,Zau,Zbq,Zba,x_ao,Zbp,Zan,Za2,Zat,Zas,Za1,Zao,Zal,x_bm,Zbn,Zaz,Zbj,Zcd,Zaq,Za9,Za5,Zbe,Zbf] at q
 refine wpAny_Tuple (wpAny_mono (hxsL hx H s _ E S m q) (fun vs s₁ z=>?_) fun _ _ z=>z)
 obtain ⟨hn,as,H₁,hv,S₁,m₁,q₁⟩:=z
 refine ⟨by refine rl hn ?_;unfold sizeLine;lia,?_⟩
 obtain ⟨e,S'⟩:=S₁.newObj (o:=.tuple as) (Nat.le_refl _) (fun _ _ z=>Heap.get?_push_of_some _ z) (by refine rl (Heap.size_push ..) ?_;lia) (by intro _ _ z;contradiction) (fun D=>⟨vs,0,Heap.get?_push_size _ rfl,hv⟩)
 exact ⟨_,_,.ref _,S',m₁.heap _,q₁ _ e⟩
theorem Zta {pos:Pos}:HX g A R V s₀ (.dict [] []) (eval (.Dict [] [] pos) env):=fun H s Q E S m q=>by
 dsimp only [Zai,Zad,Zau,Zbq,Zba,x_ao,Zbp,Zan,Za2,Zat,Zas,Za1,Zao,Zal,x_bm,Zbn,Zaz,Zbj,Zcd,Zaq,Za9,Za5,Zbe,Zbf] at q
 refine wpAny_Dict_empty ?_
 obtain ⟨e,S'⟩:=S.newObj (o:=.dict 0 []) (h':=s.heap.push { cls:=.type "dict",data:=.dict #[] }) (Nat.le_refl _) (fun _ _ z=>Heap.get?_push_of_some _ z) (by refine rl (Heap.size_push ..) ?_;lia) (by intro _ _ z;contradiction) (fun D=>⟨[],⟨_,#[],Heap.get?_push_size _ rfl,⟨rfl,rfl,rfl⟩,rfl,fun _ h=>by simp at h,.nil,List.nodup_nil⟩,.nil⟩)
 ·exact ⟨_,_,.ref _,S',m.heap _,q _ e⟩
theorem Zjk {pos:Pos}:∀ {xs:List X} {es:List Expr},Zfi g A R V s₀ env xs es→(backTo pos (starEach es env)).all (fun x=>!x.1)=true
 | _,_,.nil=>rfl
 | _,_,.cons hx r=>by
  (refine rl (Zbg hx.2) ?_;dsimp only [Zch];refine rl List.all_cons (rl (Zjk r) ?_));rfl
theorem Zkg {M:Model} {E:Value→Shared→Prop} {s:Shared} {o:Expr} {name:Str} {apos pos:Pos} {args:List Expr} {Q:Value→Shared→Prop} (hb:Zf1 o=true) (hall:(backTo pos (starEach args env)).all (fun x=>!x.1)=true)
  (hlen:args.length<29) (hline:(apos.endLine==pos.line)=true)
  (h:wpAny M A (eval o env) (fun ov s₁=>∀ pl,wpAny M A (getMethod ov name pl) (fun fx s₂=>wpAny M A (callWith pos fx.1 fx.2 (backTo pos (starEach args env)) []) Q E s₂) E s₁) E s) :
  wpAny M A (eval (.Call (.Attribute o name apos) args [] pos) env) Q E s:=by
 refine rl (arm_eval_Call ..) (rl (Zk4 hb ..) ?_)
 refine wpAny_bind (wpAny_mono h (fun ov s₁ h₁=>?_) fun _ _ e=>e)
 refine wpAny_bind (wpAny_standAt ?_)
 have hform:methodCallForm (args.length+([]:List Keyword).length) (backTo pos (starEach args env)) (backToKw pos (keywordEach [] env))=true:=by
  unfold methodCallForm
  refine rl (hall ..) ?_
  simp only [Bool.true_and]
  show (true&&decide (args.length+0+0<30))=true
  simp;lia
 have hpos:methodCallPos true o env apos pos=pure pos:=by unfold methodCallPos;simp [hline]
 unfold methodCall
 refine rl (hform ..) ?_
 refine wpAny_bind (wpAny_holding (wpAny_mono (h₁ _) (fun fx s₂ h₂=>?_) fun _ _ e=>e))
 exact wpAny_bind (wpAny_of_eq hpos h₂)
theorem Zv2 {a:X} {mt:String} {xs:List X} {o:Expr} {args:List Expr} {apos pos:Pos} (C:g.c.Ok mg mb) (PO:PgOk g.c) (ev:Ev g A R e₀ l₀) (hb:Zf1 o=true) (hline:(apos.endLine==pos.line)=true) (hlen:args.length<29)
  (ha:HX g A R V s₀ a (eval o env)) (hx:Zfi g A R V s₀ env xs args):HX g A R V s₀ (.meth a mt xs) (eval (.Call (.Attribute o (Str.ofString mt) apos) args [] pos) env):=fun H s Q E S m q=>by
 replace q:wpX g a V (fun x H=>Zrr g.c.P mt x (fun f p H=>wpXs g xs V (fun vs H=>CallOK g.c g.n g.md f (.ref p::vs) Q E H) E H) H) E H:=q
 refine Zkg hb (Zjk hx) hlen hline (wpAny_mono (ha H s _ E S m q) (fun ov s₁ z=>?_) fun _ _ z=>z)
 obtain ⟨ao,H₁,ho,S₁,m₁,q₁⟩:=z
 intro pl
 refine Zst (m:=fun ov=>wpAny _ A (getMethod ov (Str.ofString mt) pl) _ (TE g R s₀ E) s₁) S₁ ho q₁ fun p cl es hmm O hno q₁=>?_
 obtain ⟨c1,c2,c3,c4⟩:=PO.meth cl mt hmm
 obtain ⟨I,x3⟩:=O
 obtain ⟨f1,f2⟩:=Zgc (n:=mt) x3
 rw [hno] at f1
 generalize hf:(List.find? (fun x:DictEntry=>x.key.isStr (Str.ofString mt)) _)=fe at f1
 cases fe with
 | some=>cases f1
 | none =>
 refine method_fn (C.kin.keeps S₁.stays) I (plainGet_of c1).1 (plainGet_of c1).2 c2 (beq_iff_eq.mp c3) ?_ ?_
 ·show (lookIn (Str.ofString mt) (dictOf _ _)).map _=_
  refine rl (lookIn_dict ..) ?_;unfold getL;refine rl (hf ..) (rl (f2 ..) ?_);rfl
 ·exact Zq6 C c4 hx S₁ m₁ q₁ fun as vs H' s' k1 k2 k3 k4=>Zky ev (.cons (.ref p) k1) k2 k3 k4
set_option tactic.hygienic true in
theorem DRs.without {es:List (Str×AV)} {kvs:List (Str×Value)} (h:DRs es kvs) (k:Str):DRs (es.filter fun e=>e.1≠k) (PySem.without kvs k):=by
 unfold PySem.without
 induction h with
 | nil=>exact .nil
 | cons h1 h2 _ ih =>
  rename_i k' a v as vs _
  by_cases z:k'=k
  ·simpa [z] using ih
  ·simpa [z] using DRs.cons h1 h2 ih
theorem Zzu {p:Addr} {k:Str} {t:Tok} {es:List (Str×AV)} {ep:Nat} {v:AV} {H:Zaa} {s:Shared} {Q:AV→Zaa→Prop} {E:Value→Shared→Prop} (S:St g.c R H s.heap) (m:Sm s₀ s) (e:H p=some (.dict ep es)) (hz:es.length≤sizeLine)
  (hv:Zbu es k=some v) (q:∀ ep,Q v (up H p (.dict ep (es.filter fun e=>e.1≠k)))) :
  wpAny (model g.c.prog g.c.w) A (call (.builtin "dict.pop") [.ref p,.str k t]) (TQ g R s₀ Q) E s:=by
 obtain ⟨kvs,hd,hr⟩:=Zbk S e
 have hlk:=hr.look k
 rw [hv] at hlk
 generalize hw:valueAt kvs k=w at hlk
 cases hlk with
 | some hvr =>
 refine call_meetsIn PySem.F.slot_dict_pop hd.dictOf.typeIs PySem.F.entry_dict_pop (PySem.F.args_dict_pop_2 _ _) (meets_dict_pop_there (strKind g.c.prog g.c.w) p (strKind_is _ _ k t) [] (.inl rfl) rfl) ⟨kvs,_,hd.dictOf,by refine rl hr.length ?_;exact hz,hw,fun h' hd' hs=>?_⟩
 obtain ⟨ep',hat⟩:=hd'.dictAt
 exact ⟨v,_,hvr,S.setObj (o':=.dict ep' _) e (by intro _ _ z;contradiction) hs fun D=>⟨_,hat,hr.without k⟩,m.step _ _,q ep'⟩
theorem Zr6 {p:Addr} {es:List (Str×AV)} {ep:Nat} {H:Zaa} {s:Shared} {Q:AV→Zaa→Prop} {E:Value→Shared→Prop} (C:g.c.Ok mg mb) (S:St g.c R H s.heap) (m:Sm s₀ s) (e:H p=some (.dict ep es)) (q:∀ z,H z=none→Q (.ref z) (up H z (.vals p))) :
  wpAny (model g.c.prog g.c.w) A (call (.builtin "dict.values") [.ref p]) (TQ g R s₀ Q) E s:=by
 obtain ⟨kvs,hd,hr⟩:=Zbk S e
 refine call_meetsIn PySem.F.slot_dict_values hd.dictOf.typeIs PySem.F.entry_dict_values (PySem.F.args_dict_values_1 _) (meets_dict_values (strKind g.c.prog g.c.w) p (Zio C S e)) ⟨⟨kvs,hd.dictOf⟩,?_⟩
 obtain ⟨z,S'⟩:=S.newObj (o:=.vals p) (Nat.le_refl _) (fun _ _ z=>Heap.get?_push_of_some _ z) (by refine rl (Heap.size_push ..) ?_;exact Nat.le_succ _) (by intro _ _ z;contradiction) (fun D=>Heap.get?_push_size _ rfl)
 exact ⟨_,_,.ref _,S',m.heap _,q _ z⟩
theorem Zu8 {p:Addr} {es:List (Str×AV)} {ep:Nat} {H:Zaa} {s:Shared} {Q:AV→Zaa→Prop} {E:Value→Shared→Prop} (C:g.c.Ok mg mb) (S:St g.c R H s.heap) (m:Sm s₀ s) (e:H p=some (.dict ep es)) (q:∀ z,H z=none→Q (.ref z) (up H z (.itms p))) :
  wpAny (model g.c.prog g.c.w) A (call (.builtin "dict.items") [.ref p]) (TQ g R s₀ Q) E s:=by
 obtain ⟨kvs,hd,hr⟩:=Zbk S e
 refine call_meetsIn PySem.F.slot_dict_items hd.dictOf.typeIs PySem.F.entry_dict_items (PySem.F.args_dict_items_1 _) (meets_dict_items (strKind g.c.prog g.c.w) p (Zio C S e)) ⟨⟨kvs,hd.dictOf⟩,?_⟩
 obtain ⟨z,S'⟩:=S.newObj (o:=.itms p) (Nat.le_refl _) (fun _ _ z=>Heap.get?_push_of_some _ z) (by refine rl (Heap.size_push ..) ?_;exact Nat.le_succ _) (by intro _ _ z;contradiction) (fun D=>Heap.get?_push_size _ rfl)
 exact ⟨_,_,.ref _,S',m.heap _,q _ z⟩
noncomputable def isK (k:Str):Value→Bool
 | .str x _=>x==k
 | _=>false
theorem VRs.strs {l:List Str} {vs:List Value} (h:VRs (l.map .str) vs):(∀ (i:Nat) v,vs[i]? = some v→∃ s t,l[i]? = some s∧v = .str s t):=by
 intro i v e
 have hl:=h.length
 rw [List.length_map] at hl
 have hi:i<l.length:=by have:=(List.getElem?_eq_some_iff.mp e).1;lia
 obtain ⟨v',h1,h2⟩:=h.get (i:=i) (a:=.str l[i]) (by simp [hi])
 rw [e] at h1;obtain rfl:=Option.some.inj h1
 cases h2 with
 | str _ t=>exact ⟨_,t,List.getElem?_eq_getElem hi,rfl⟩
theorem VRs.erase:∀ {as:List AV} {vs:List Value} (j:Nat),VRs as vs→VRs (as.eraseIdx j) (vs.eraseIdx j)
 | _,_,_,.nil=>.nil
 | _,_,0,.cons _ h=>h
 | _,_,j+1,.cons h1 h=>.cons h1 (VRs.erase j h)
theorem Zqz {l:List Str}:∀ {j:Nat},(l.eraseIdx j).map AV.str=(l.map AV.str).eraseIdx j:=by
 induction l with
 | nil=>intro j;rfl
 | cons a l ih=>intro j;cases j with
  | zero=>rfl
  | succ j=>show AV.str a::_=AV.str a::_;exact rl ih rfl
theorem Zr7 {p:Addr} {k:Str} {t:Tok} {xs:List AV} {l:List Str} {H:Zaa} {s:Shared} {Q:AV→Zaa→Prop} {E:Value→Shared→Prop} (S:St g.c R H s.heap) (m:Sm s₀ s) (e:H p=some (.list xs)) (hz:xs.length≤sizeLine) (hx:xs=l.map .str) (hk:k∈l) (q:Q .none (up H p (.list ((l.erase k).map .str)))) :
  wpAny (model g.c.prog g.c.w) A (call (.builtin "list.remove") [.ref p,.str k t]) (TQ g R s₀ Q) E s:=by
 subst hx
 obtain ⟨vs,n,k1,k2,k3⟩:=Zbc S e
 have hl:=k2.length
 rw [List.length_map] at hl hz
 have hst:=k2.strs
 have hj:l.idxOf k<l.length:=List.idxOf_lt_length_iff.mpr hk
 have hat:∀ (i:Nat) (hi:i<vs.length),isK k vs[i]=(l[i]'(by lia)==k):=fun i hi=>by
  obtain ⟨x,t,h1,h2⟩:=hst i _ (List.getElem?_eq_getElem hi)
  refine rl h2 ?_
  rw [List.getElem?_eq_getElem (by lia)] at h1
  refine rl (Option.some.inj h1) ?_;rfl
 refine call_meets PySem.F.slot_list_remove ⟨_,k1,rfl⟩ PySem.F.entry_list_remove (PySem.F.args_list_remove_2 _ _)
  (MeetsSeq.list_remove p vs.toArray n (.str k t) (isK k) (fun y hy=>?_) (l.idxOf k) (by simp only [List.size_toArray];lia) ?_ (fun i hi hlt=>?_) (by simp only [List.size_toArray];lia)) ⟨k1,?_⟩
 ·obtain ⟨i,hi,rfl⟩:=List.mem_iff_getElem.mp (by simpa using hy)
  obtain ⟨x,t',h1,h2⟩:=hst i _ (List.getElem?_eq_getElem hi)
  refine rl h2 ?_
  exact eqGives_str x k t' t
 ·simp only [List.getElem_toArray]
  refine rl (hat _ (by lia)) ?_
  exact beq_iff_eq.mpr (List.getElem_idxOf hj)
 ·simp only [List.getElem_toArray]
  refine rl (hat i (by simpa using hi)) ?_
  exact List.not_of_lt_findIdx (p:=(·==k)) hlt
 ·have e0:vs.toArray.eraseIdxIfInBounds (l.idxOf k)=(vs.eraseIdx (l.idxOf k)).toArray:=by
   unfold Array.eraseIdxIfInBounds
   refine rl (dif_pos (by simp only [List.size_toArray];lia)) ?_
   simp
  have hu:=(Heap.get?_update_self (Obj.mapSeq fun xs=>xs.eraseIdxIfInBounds (l.idxOf k)) k1 rfl).trans (congrArg (fun a=>some (W.listOf a _)) e0)
  refine ⟨.none,_,.none,S.setObj (o':=.list ((l.erase k).map .str)) e (by intro _ _ z;contradiction) (Heap.SameBut.update ..) (fun D=>⟨vs.eraseIdx (l.idxOf k),_,hu,?_⟩),m.step _ _,q⟩
  refine rl (List.erase_eq_eraseIdx_of_idxOf rfl) (rl Zqz ?_)
  exact k2.erase _
noncomputable def BM.id:BM→String
 | .append=>"list.append" | .index=>"list.index" | .count=>"list.count" | .clear=>"list.clear" | .values=>"dict.values" | .pop=>"dict.pop" | .upper=>"str.upper" | .items=>"dict.items" | .remove=>"list.remove"
theorem s_bm {o:AV} {u:Value} {bm:BM} {as:List AV} {vs:List Value} {H:Zaa} {s:Shared} {Q:AV→Zaa→Prop} {E:Value→Shared→Prop} (C:g.c.Ok mg mb) (un:A.units+1+64<cLine) (ho:VR o u) (hv:VRs as vs) (S:St g.c R H s.heap) (m:Sm s₀ s) (q:wbm o bm as Q H) :
  wpAny (model g.c.prog g.c.w) A (call (.builtin bm.id) (u::vs)) (TQ g R s₀ Q) E s:=by
 cases bm with
 | append=>exact Zcz (m:=fun vs=>wpAny _ A (call (.builtin "list.append") (u::vs)) (TQ g R s₀ Q) E s) hv q fun a v h q=>Zri (m:=fun u=>wpAny _ A (call (.builtin "list.append") [u,v]) (TQ g R s₀ Q) E s) ho q fun p xs e q=>Zr8 h S m e q.1 q.2
 | values=>cases hv with
  | nil=>exact Zl2 (m:=fun u=>wpAny _ A (call (.builtin "dict.values") [u]) (TQ g R s₀ Q) E s) ho q fun p ep es e q=>Zr6 C S m e q
  | cons=>exact q.elim
 | pop =>
  refine Zcz (m:=fun vs=>wpAny _ A (call (.builtin "dict.pop") (u::vs)) (TQ g R s₀ Q) E s) hv q fun a v h q=>?_
  cases h with
  | str k t hk =>
   refine Zl2 (m:=fun u=>wpAny _ A (call (.builtin "dict.pop") [u,.str k t]) (TQ g R s₀ Q) E s) ho q fun p ep es e q=>?_
   obtain ⟨z1,v,z2,z3⟩:=q
   exact Zzu S m e z1 z2 z3
  | _=>exact q.elim
 | items=>cases hv with
  | nil=>exact Zl2 (m:=fun u=>wpAny _ A (call (.builtin "dict.items") [u]) (TQ g R s₀ Q) E s) ho q fun p ep es e q=>Zu8 C S m e q
  | cons=>exact q.elim
 | remove =>
  refine Zcz (m:=fun vs=>wpAny _ A (call (.builtin "list.remove") (u::vs)) (TQ g R s₀ Q) E s) hv q fun a v h q=>?_
  cases h with
  | str k t hk =>
   refine Zri (m:=fun u=>wpAny _ A (call (.builtin "list.remove") [u,.str k t]) (TQ g R s₀ Q) E s) ho q fun p xs e q=>?_
   obtain ⟨z1,l,z2,z3,z4⟩:=q
   exact Zr7 S m e z1 z2 z3 z4
  | _=>exact q.elim
 | _=>exact q.elim
theorem Zxc {o:AV} {u:Value} {bm:BM} {pl:Sem Bool} {H:Zaa} {s:Shared} {Q:Value×List Value→Shared→Prop} {E:Value→Shared→Prop} (ho:VR o u) (S:St g.c R H s.heap) (hon:bmOn bm o H) (q:Q (.builtin bm.id,[u]) s) :
  wpAny (model g.c.prog g.c.w) A (getMethod u (Str.ofString bm.str) pl) Q E s:=by
 cases ho with
 | str x t hx=>cases hon;exact getMethod_builtin (typeIs_str _ _ _) PySem.F.plainAttrs_str PySem.F.slot_str_upper PySem.F.type_str_upper (fun a h=>by cases h) q
 | ref p =>
  obtain ⟨oo,e⟩:∃ oo,H p=oo:=⟨_,rfl⟩
  dsimp only [bmOn] at hon
  rw [e] at hon
  cases oo with
  | none=>exact hon.elim
  | some oo =>
  cases oo with
  | list xs =>
   obtain ⟨ws,n,k1,k2,k3⟩:=Zbc S e
   have k0:∀ a,Value.ref p = .ref a→∃ o,s.heap.get? a=some o∧o.dict=none:=fun a h=>by cases h;exact ⟨_,k1,rfl⟩
   rcases hon with rfl | rfl | rfl | rfl | rfl
   ·exact getMethod_builtin ⟨_,k1,rfl⟩ PySem.F.plainAttrs_list PySem.F.slot_list_append PySem.F.type_list_append k0 q
   ·exact getMethod_builtin ⟨_,k1,rfl⟩ PySem.F.plainAttrs_list PySem.F.slot_list_clear PySem.F.type_list_clear k0 q
   ·exact getMethod_builtin ⟨_,k1,rfl⟩ PySem.F.plainAttrs_list PySem.F.slot_list_index PySem.F.type_list_index k0 q
   ·exact getMethod_builtin ⟨_,k1,rfl⟩ PySem.F.plainAttrs_list PySem.F.slot_list_count PySem.F.type_list_count k0 q
   ·exact getMethod_builtin ⟨_,k1,rfl⟩ PySem.F.plainAttrs_list PySem.F.slot_list_remove PySem.F.type_list_remove k0 q
  | dict ep es =>
   obtain ⟨kvs,⟨od,es,k1,kc,_⟩,hr⟩:=Zbk S e
   have k0:∀ a,Value.ref p = .ref a→∃ o,s.heap.get? a=some o∧o.dict=none:=fun a h=>by cases h;exact ⟨_,k1,kc.2.1⟩
   rcases hon with rfl | rfl | rfl
   ·exact getMethod_builtin ⟨_,k1,kc.1⟩ PySem.F.plainAttrs_dict PySem.F.slot_dict_values PySem.F.type_dict_values k0 q
   ·exact getMethod_builtin ⟨_,k1,kc.1⟩ PySem.F.plainAttrs_dict PySem.F.slot_dict_pop PySem.F.type_dict_pop k0 q
   ·exact getMethod_builtin ⟨_,k1,kc.1⟩ PySem.F.plainAttrs_dict PySem.F.slot_dict_items PySem.F.type_dict_items k0 q
  | _=>exact hon.elim
 | _=>exact hon.elim
theorem Z0d {a:X} {bm:BM} {xs:List X} {o:Expr} {args:List Expr} {apos pos:Pos} (C:g.c.Ok mg mb) (ev:Ev g A R e₀ l₀) (hb:Zf1 o=true) (hline:(apos.endLine==pos.line)=true) (hlen:args.length<29)
  (ha:HX g A R V s₀ a (eval o env)) (hx:Zfi g A R V s₀ env xs args):HX g A R V s₀ (.bm a bm xs) (eval (.Call (.Attribute o (Str.ofString bm.str) apos) args [] pos) env):=fun H s Q E S m q=>by
 dsimp only [Zai,Zad,Zau,Zbq,Zba,x_ao,Zbp,Zan,Za2,Zat,Zas,Za1,Zao,Zal,x_bm,Zbn,Zaz,Zbj,Zcd,Zaq,Za9,Za5,Zbe,Zbf] at q
 refine Zkg hb (Zjk hx) hlen hline (wpAny_mono (ha H s _ E S m q) (fun ov s₁ z=>?_) fun _ _ z=>z)
 obtain ⟨ao,H₁,ho,S₁,m₁,hon,q₁⟩:=z
 intro pl
 refine Zxc ho S₁ hon ?_
 exact Zq7 (.inl ⟨_,rfl⟩) hx S₁ m₁ q₁ fun as vs H' s' k1 k2 k3 k4=>s_bm C (by have:=ev.aok.units;lia) ho k1 k2 k3 k4
theorem Zyg {sc:Scope} {nm:List Str} {cl:String} {fe:Expr} {args:List Expr} {xs:List X} {pos:Pos} (C:g.c.Ok mg mb) (PO:PgOk g.c) (ev:Ev g A R e₀ l₀) (fr:Frm R env sc nm V) (hn:Zby sc cl fe=true)
  (hg:g.c.P.classes.contains cl=true) (hx:Zfi g A R V s₀ env xs args):HX g A R V s₀ (.new cl xs) (eval (.Call fe args [] pos) env):=fun H s Q E S m q=>by
 dsimp only [Zai,Zad,Zau,Zbq,Zba,x_ao,Zbp,Zan,Za2,Zat,Zas,Za1,Zao,Zal,x_bm,Zbn,Zaz,Zbj,Zcd,Zaq,Za9,Za5,Zbe,Zbf] at q
 obtain ⟨h1,h2,h3,h4,h5⟩:=PO.cls cl hg
 obtain ⟨id,p,rfl⟩:=Zea hn
 refine wpAny_Call_NameR (Zip C fr S hn h1 ?_)
 refine Zq6 C h2 hx S m q fun as vs H' s' k1 k2 k3 k4=>?_
 obtain ⟨hh,gg,dd,t,os⟩:=s'
 have X:=C.kin.keeps k2.stays
 obtain ⟨e,S'⟩:=k2.newInst (cl:=cl)
 refine wpAny_call (make_core (makes_of X h3) (looks_findIn X h4) (fun self=>bind_fn X self (beq_iff_eq.mp h5)) (.inl rfl) ?_)
 refine k4 _ e _ (e₀::l₀) R _ _ _ ⟨?_,?_,?_,?_⟩ ev.stk S' (.cons (.ref _) k1) ?_ ?_
 ·exact ev.aok.frames
 ·have:=ev.aok.depth
  have hw:(Code.builtin "type.__call__" ⟨.ref (g.c.ca cl)::vs,[]⟩).weight=1:=rfl
  show A.depth+(Code.builtin "type.__call__" ⟨.ref (g.c.ca cl)::vs,[]⟩).weight+110+0+8*g.n<recursionLimit
  lia
 ·have:=ev.aok.units
  have hw:(Code.builtin "type.__call__" ⟨.ref (g.c.ca cl)::vs,[]⟩).cUnits=1:=rfl
  show A.units+(Code.builtin "type.__call__" ⟨.ref (g.c.ca cl)::vs,[]⟩).cUnits+100+10*0+60*g.n<cLine
  lia
 ·exact ev.aok.hand
 ·rintro av v s' H' z1 z2 z3 ⟨rfl,z4⟩
  cases z1
  exact ⟨rfl,_,_,.ref _,z2,k3.trans ((Sm.mk' _ _ _).trans z3),z4⟩
 ·exact fun e cl s' H' z1 z2 z3=>⟨e,cl,H',rfl,z1,k3.trans ((Sm.mk' _ _ _).trans z2),z3⟩
end
end Mine
end
section
namespace Mine
theorem Zut:typeOf (.type "ValueError")=pure (.type "type"):=by kernel_rfl
theorem Zlx {M:Model} {A:Around} {E:Value→Shared→Prop} {K:Frag} {s:Shared} {v:Value} {C:Addr} {T:String} {dep:Int} {tk:Tok} {Q:Fin→Shared→Prop} (X:K.In s.heap) (ht:Looks M s.heap (typeOf v) (.ref C))
  (hty:typeOf (.type T)=pure (.type "type")) (e:subIn K (.ref C) (.type T)=some true) (h:Q (.done (.ret (.bool true))) s) :
  wpAny M A (Builtin.«isinstance.nested» ⟨[v,.type T,.int dep tk],[]⟩) Q E s:=by
 obtain ⟨hh,g,d,tt,os⟩:=s
 unfold Builtin.«isinstance.nested»
 refine wpAny_bind (ht.at ?_)
 refine rl (if_neg (by simp)) ?_
 have L3:Looks M hh (isInstance v (.type T)) true:=ht.andThen (looks_subIn X e)
 refine rl hty ?_
 refine wpAny_bind (wpAny_pure ?_)
 refine rl (if_pos (by decide)) ?_
 k_delta "plainIsInstance"
 unfold isType
 refine wpAny_bind (wpAny_bind (wpAny_pure ?_))
 dsimp only [Bool.not_true,Bool.false_eq_true,if_false]
 refine wpAny_bind (L3.at ?_)
 simp only [if_true]
 exact wpAny_pure (wpAny_pure h)
theorem Zqd {prog:Program} {w:World} {A:Around} {E:Value→Shared→Prop} {K:Frag} {s:Shared} {v:Value} {C:Addr} {T:String} {Q:Value→Shared→Prop} (X:K.In s.heap) (ht:∀ M,Looks M s.heap (typeOf v) (.ref C))
  (hty:typeOf (.type T)=pure (.type "type")) (e:subIn K (.ref C) (.type T)=some true) (hx:v≠.builtin "__main__.__loader__#opaque") (h:Q (.bool true) s) :
  wpAny (model prog w) A (call (.builtin "isinstance") [v,.type T]) Q E s :=
 call_isinstance (S:=fun _ R s=>(K.In s.heap∧∀ M,Looks M s.heap (typeOf v) (.ref C))∧R (.ok (.ret (.bool true))) s) (fun _ _ _ _ _ hs=>isinstance_outer (Zlx hs.1.1 (hs.1.2 _) hty e hs.2) hx) ⟨⟨X,ht⟩,h⟩
section
variable {prog:Program} {w:World} {A:Around} {E:Value→Shared→Prop} {s:Shared} {K:Frag} {x C D:Addr}
noncomputable def Zkw (K:Frag) (D:Addr):Prop:=findIn K (.ref D) "__class__" = some (some (.builtin "object.__class__"))∧specialIn K (.builtin "object.__class__") "__get__" = some (some (.builtin "getset_descriptor.__get__"))∧takesIn K (.builtin "object.__class__")=some true
theorem Zn3 {M:Model} {h:Heap} (X:K.In h) (e:Zkw K D):Looks M h (Builtin.ObjectAttr.find (.ref x) (.ref D) "__class__") (.bind (.builtin "getset_descriptor.__get__") (.builtin "object.__class__")):=by
 obtain ⟨h1,h2,h3⟩:=e
 have L1:=looks_findIn (M:=M) X h1
 have L2:Looks M h (Builtin.ObjectAttr.getOf (some (.builtin "object.__class__"))) (some (.builtin "getset_descriptor.__get__")):=looks_specialIn X h2
 refine L1.andThen (L2.andThen ?_)
 have L3:=looks_takesIn (M:=M) X h3
 exact (show Looks M h (Builtin.ObjectAttr.dataDescriptor? (some (.builtin "object.__class__")) (some (.builtin "getset_descriptor.__get__"))) (some (.builtin "getset_descriptor.__get__",.builtin "object.__class__")) from L3.andThen .now).andThen (Looks.tag .now)
open Builtin Builtin.ObjectAttr Builtin.Getset_descriptor in
theorem Zwg {tp:Value} {R:Result→Shared→Prop} (X:K.In s.heap) (I:∀ M,Looks M s.heap (typeOf (.ref x)) (.ref D)) (hm:mroIn K D (.type "object")=some true) (h:R (.ok (.ret (.ref D))) s) :
  codeAny (model prog w) A (.call (.builtin "getset_descriptor.__get__") ⟨[.builtin "object.__class__",.ref x,tp],[]⟩) R s:=by
 obtain ⟨hh,g,dr,t,os⟩:=s
 have L0:=I (model prog w)
 have L1:=looks_mroIn (M:=model prog w) X hm
 refine codeAny_call_builtin KF.slot_gs.plain KF.entry_gs (KF.slot_gs.check _ _ _ _ _ _ _ _ KF.type_class (KF.args_gs _ _ _) ?_)
 unfold Builtin.«getset_descriptor.__get__» descrGet
 refine rl (dga_obj ..) ?_
 refine wpAny_bind (wpAny_pure ?_)
 unfold descrGetter descrCheckInstance descrNameAndClass isInstance
 simp only [KF.owner_class]
 repeat lk
 refine ⟨Code.quiet_builtin _ (by decide +kernel),codeAny_builtin KF.entry_class ?_⟩
 unfold Builtin.«object.__class__» shownTypeOf
 repeat lk
 exact h
theorem Zkr {tk:Tok} {Q:Fin→Shared→Prop} (X:K.In s.heap) (I:∀ M,Looks M s.heap (typeOf (.ref x)) (.ref D)) (hf:Zkw K D) (hm:mroIn K D (.type "object")=some true) (h:Q (.done (.ret (.ref D))) s) :
  wpAny (model prog w) A (Builtin.«object.__getattribute__» ⟨[.ref x,.str "__class__" tk],[]⟩) Q E s:=by
 obtain ⟨hh,g,d,t,os⟩:=s
 have L0:=I (model prog w)
 have L1:=Zn3 (x:=x) (M:=model prog w) X hf
 unfold Builtin.«object.__getattribute__»
 refine wpAny_bind (wpAny_pure ?_)
 refine wpAny_bind (wpAny_pure ?_)
 refine wpAny_bind (L0.at (wpAny_bind (L1.at ?_)))
 show wpAny _ _ (holding [Value.builtin "object.__class__"] (call (.builtin "getset_descriptor.__get__") [.builtin "object.__class__",.ref x,.ref D]) >>= ret) _ _ _
 exact wpAny_bind (wpAny_holding (wpAny_call (Zwg X I hm (wpAny_pure h))))
theorem Zyw {tk:Tok} {R:Result→Shared→Prop} (X:K.In s.heap) (I:∀ M,Looks M s.heap (typeOf (.ref x)) (.ref D)) (hb:subIn K (.ref D) (.type "BaseException")=some true) (hf:Zkw K D) (hm:mroIn K D (.type "object")=some true) (h:R (.ok (.ret (.ref D))) s) :
  codeAny (model prog w) A (.call (.builtin "BaseException.__getattribute__") ⟨[.ref x,.str "__class__" tk],[]⟩) R s:=by
 have hk:builtinKind "BaseException.__getattribute__" = some .slot:=by decide +kernel
 have hsplit:splitId "BaseException.__getattribute__" = some ("BaseException","__getattribute__"):=by decide +kernel
 have ha:=F.args_bexc_ga (.ref x) (.str "__class__" tk)
 obtain ⟨hh,g,d,t,os⟩:=s
 have L0:=I (model prog w)
 have L3:Looks (model prog w) hh (isInstance (.ref x) (.type "BaseException")) true:=L0.andThen (looks_subIn X hb)
 refine codeAny_call_builtin (by decide +kernel) F.entry_bexc_ga ?_
 simp only [checkBuiltinCall,hk,hsplit]
 refine wpAny_bind (L3.at ?_)
 refine rl (if_neg (by decide)) ?_
 revert ha
 unfold argsOk
 generalize Manifest.signature? "BaseException.__getattribute__" = sg
 cases sg with
 | none=>exact fun _=>wpAny_pure (Zkr X I hf hm h)
 | some sig =>
  intro ha
  show wpAny _ _ (Bind.checkArgs "BaseException.__getattribute__" sig ⟨[.ref x,.str "__class__" tk],[]⟩) _ _ _
  refine rl (show Bind.checkArgs "BaseException.__getattribute__" sig ⟨[.ref x,.str "__class__" tk],[]⟩=pure () from ha) ?_
  exact wpAny_pure (Zkr X I hf hm h)
theorem Zqw {Q:Option Value→Shared→Prop} (X:K.In s.heap) (I:∀ M,Looks M s.heap (typeOf (.ref x)) (.ref D)) (hga:findIn K (.ref D) "__getattribute__" = some (some (.builtin "BaseException.__getattribute__"))) (hgt:findIn K (.ref D) "__getattr__" = some none) (hb:subIn K (.ref D) (.type "BaseException")=some true) (hf:Zkw K D) (hm:mroIn K D (.type "object")=some true) (h:Q (some (.ref D)) { s with toks:=s.toks+1 }) :
  wpAny (model prog w) A (getAttr? (.ref x) "__class__") Q E s:=by
 obtain ⟨hh,g,d,t,os⟩:=s
 have L0:=I (model prog w)
 have L1:=looks_findIn (M:=model prog w) X hga
 have L2:=looks_findIn (M:=model prog w) X hgt
 unfold getAttr? getAttrBy? getAttrBy
 refine wpAny_bind (wpAny_mkText (wpAny_bind (wpAny_attempt (wpAny_holding (wpAny_bind (L0.at (wpAny_bind (L1.at ?_))))))))
 have hx2:(Value.builtin "BaseException.__getattribute__"==Value.builtin "object.__getattribute__")=false:=by decide +kernel
 dsimp only
 refine rl (hx2 ..) (rl (Bool.and_false ..) (rl (if_neg (by decide) ..) ?_))
 unfold getAttrByItsOwn hookBefore
 refine wpAny_bind ?_
 refine rl (if_pos (by rfl)) ?_
 refine L2.at ?_
 refine wpAny_bind (wpAny_attempt (wpAny_holding ?_))
 unfold callGetattribute boundAndCalled
 refine rl (if_neg (by decide)) ?_
 refine wpAny_bind ?_
 unfold bindSpecial
 refine rl (show typeOf (.builtin "BaseException.__getattribute__")=pure (.type "wrapper_descriptor") by kernel_rfl) ?_
 refine wpAny_bind (wpAny_pure ?_)
 refine rl (if_pos (by decide +kernel)) ?_
 refine wpAny_pure ?_
 show wpAny _ _ (call (.builtin "BaseException.__getattribute__") [.ref x,.str "__class__" t]) _ _ _
 refine wpAny_call (Zyw (s:=⟨hh,g,d,t+1,os⟩) X I hb hf hm ?_)
 exact handed_on rfl (wpAny_pure h)
set_option tactic.hygienic true in
theorem Zqv {C:Addr} {Q:Value→Shared→Prop} (X:K.In s.heap) (I:∀ M,Looks M s.heap (typeOf (.ref x)) (.ref D)) (hga:findIn K (.ref D) "__getattribute__" = some (some (.builtin "BaseException.__getattribute__"))) (hgt:findIn K (.ref D) "__getattr__" = some none) (hb:subIn K (.ref D) (.type "BaseException")=some true) (hf:Zkw K D) (hm:mroIn K D (.type "object")=some true)
  (hcD:(clsIn K D).isSome=true) (hcC:(clsIn K C).isSome=true) (hty:typeIn K (.ref C)=some (.type "type")) (hne:D≠C) (hsub:subIn K (.ref D) (.ref C)=some false) (h:Q (.bool false) { s with toks:=s.toks+1 }) :
  wpAny (model prog w) A (call (.builtin "isinstance") [.ref x,.ref C]) Q E s:=by
 have isT:∀ {M:Model} {h':Heap} {c:Addr},K.In h'→(clsIn K c).isSome=true→Looks M h' (isType (.ref c)) true:=fun {M h' c} X' e=>by
  unfold clsIn at e
  split at e
  ·rename_i c' d' cd' sl' ho
   intro A' Q' E' s' k q
   unfold isType loadHead
   exact wpAny_bind (wpAny_loadPart (k _ _ (X' _ _ ho)) (wpAny_pure q))
  ·contradiction
 refine call_isinstance (S:=fun _ R s=>(K.In s.heap∧∀ M,Looks M s.heap (typeOf (.ref x)) (.ref D))∧R (.ok (.ret (.bool false))) { s with toks:=s.toks+1 }) (fun p w' A' R s' hs=>isinstance_outer ?_ (by intro q;contradiction)) ⟨⟨X,I⟩,h⟩
 obtain ⟨⟨X',I'⟩,hR⟩:=hs
 obtain ⟨h0,g,d,tt,os⟩:=s'
 have L0:=I' (model p w')
 have LS:=looks_subIn (M:=model p w') X' hsub
 have LI:Looks (model p w') h0 (isInstance (.ref x) (.ref C)) false:=L0.andThen LS
 unfold Builtin.«isinstance.nested»
 refine wpAny_bind (L0.at ?_)
 refine rl (if_neg (fun q=>hne (Value.ref.inj (beq_iff_eq.mp q)))) ?_
 refine wpAny_bind ((looks_typeIn X' hty).at ?_)
 refine rl (if_pos (by decide)) ?_
 k_delta "plainIsInstance"
 refine wpAny_bind (wpAny_bind ((isT X' hcC).at ?_))
 simp only [Bool.not_true,Bool.false_eq_true,if_false]
 refine wpAny_bind (LI.at ?_)
 simp only [Bool.false_eq_true,if_false]
 refine wpAny_bind (Zqw X' I' hga hgt hb hf hm ?_)
 refine wpAny_bind ((isT X' hcD).at ?_)
 simp only [Bool.not_true,Bool.false_eq_true,if_false]
 refine wpAny_bind (wpAny_rule ?_)
 refine LS.at ?_
 first
  | exact wpAny_pure hR
  | exact wpAny_pure (wpAny_pure hR)
  | exact wpAny_bind (wpAny_pure (wpAny_pure hR))
end
section
variable {g:Gx} {A:Around} {R:RR} {V:VV} {s₀:Shared} {env:Env} {mg mb:Str→Option Value} {e₀:Env} {l₀:List Env}
theorem Zjj {M:Model} {H:Zaa} {h:Heap} {p:Addr} {cl:String} (S:St g.c R H h) (e:H p=some (.exc cl)):Looks M h (typeOf (.ref p)) (.ref (g.c.ca cl)):=by
 obtain ⟨⟨D,o,o1,o2,vs,o3⟩,_⟩:=S.orep e
 refine rl o2.symm ?_
 exact (Looks.ld o1).andThen .now
theorem Zqc {P:Pg} {H:Zaa} {v:AV} {ty:String} {b:Bool} (hty:¬(ty = "int"∨ty = "bool"∨ty = "str"∨ty = "list")) (h:Zbx P H v ty=some b) :
  ∃ p cl,v = .ref p∧H p=some (.exc cl)∧Zd3 P cl ty=b∧(b=false→(P.excs.lookup ty).isSome=true∧(P.excs.lookup cl).isSome=true):=by
 unfold Zbx at h
 rw [if_neg hty] at h
 cases v with
 | ref p =>
  obtain ⟨o,e⟩:∃ o,H p=o:=⟨_,rfl⟩
  dsimp only at h
  rw [e] at h
  cases o with
  | none=>cases h
  | some o=>cases o with
   | exc cl =>
    refine ⟨p,cl,rfl,e,?_⟩
    replace h:(if Zd3 P cl ty=true then some true else if ((P.excs.lookup ty).isSome&&(P.excs.lookup cl).isSome)=true then some false else none)=some b:=h
    cases hc:Zd3 P cl ty with
    | true=>rw [hc,if_pos rfl] at h;obtain rfl:=Option.some.inj h;exact ⟨rfl,fun z=>Bool.noConfusion z⟩
    | false =>
     rw [hc,if_neg Bool.false_ne_true] at h
     cases hk:((P.excs.lookup ty).isSome&&(P.excs.lookup cl).isSome) with
     | true=>rw [hk,if_pos rfl] at h;obtain rfl:=Option.some.inj h;exact ⟨rfl,fun _=>and2 hk⟩
     | false=>rw [hk,if_neg Bool.false_ne_true] at h;cases h
   | _=>cases h
 | _=>contradiction
theorem Zqx {P:Pg} {cl ty:String} (h:Zd3 P cl ty=true):(P.excs.lookup cl).isSome=true:=by
 unfold Zd3 at h
 cases z:P.excs.lookup cl with
 | none=>rw [z] at h;cases h
 | some=>rfl
theorem Zqi {sc:Scope} {nm:List Str} {ty:String} {fe t x:Expr} {a:X} {pos:Pos} (C:g.c.Ok mg mb) (PO:PgOk g.c) (fr:Frm R env sc nm V) (hn:Zby sc "isinstance" fe=true) (hg:g.c.P.prims.contains "isinstance" = true)
  (ht:(g.c.P.prims.contains ty||(g.c.P.excs.lookup ty).isSome)=true) (hn':Zby sc ty t=true) (hx:HX g A R V s₀ a (eval x env)) (hs:Zc2 x=true) :
  HX g A R V s₀ (.isinst a ty) (eval (.Call fe [x,t] [] pos) env):=by
 cases hx':(g.c.P.excs.lookup ty).isSome with
 | false =>
  rw [hx',Bool.or_false] at ht
  by_cases hty:ty = "int"∨ty = "bool"∨ty = "str"∨ty = "list"
  ·exact Zyk C PO fr hn hg ht hn' hty hx hs
  obtain ⟨k1,k2,k3⟩:=PO.prim _ ht
  refine Zqj C PO fr hn hg (Zhn hn') (fun S q=>Zmx C fr S hn' k1 k2 k3 q) hx hs fun {av v H s Q E b} hv S m hb q=>?_
  obtain ⟨p,cl,rfl,e,hc,hk⟩:=Zqc hty hb
  cases hv
  cases b with
  | false=>rw [(hk rfl).1] at hx';cases hx'
  | true =>
   obtain ⟨e1,e3⟩:=PO.exc cl ty hc ht
   subst e1
   exact Zqd (C.kin.keeps S.stays) (fun M=>Zjj S e) Zut e3 (by simp) (TQ.pure (.bool _) S m q)
 | true =>
  obtain ⟨k1,k2,k3,k4,k5,k6,k7,k8⟩:=PO.excR _ hx'
  have hty:¬(ty = "int"∨ty = "bool"∨ty = "str"∨ty = "list"):=by
   rintro (rfl | rfl | rfl | rfl)<;>exact absurd k8 (by decide)
  refine Zqj C PO fr hn hg (Zhn hn') (fun S q=>Zip C fr S hn' k1 q) hx hs fun {av v H s Q E b} hv S m hb q=>?_
  obtain ⟨p,cl,rfl,e,hc,hk⟩:=Zqc hty hb
  cases hv
  cases b with
  | true =>
   have hsub:=PO.excC cl ty (Zqx hc) hx'
   rw [hc] at hsub
   refine isi_call (C.kin.keeps S.stays) (fun M=>Zjj S e) ?_ (by simp) (TQ.pure (.bool _) S m q)
   unfold isIn
   refine rl k5 (rl k6 (rl k7 (rl hsub ?_)))
   simp
  | false =>
   have hkn:=(hk rfl).2
   have hsub:=PO.excC cl ty hkn hx'
   rw [hc] at hsub
   obtain ⟨g1,g2,g3,g4,g5,g6,g7⟩:=PO.excG cl hkn
   obtain ⟨_,_,_,c4,c5,_⟩:=PO.excR cl hkn
   have hne:g.c.ca cl≠g.c.ca ty:=fun z=>by
    have:=PO.excC cl cl hkn hkn
    rw [← z,this,g7] at hsub;contradiction
   exact Zqv (C.kin.keeps S.stays) (fun M=>Zjj S e) g1 g2 c4 ⟨g3,g4,g5⟩ g6 c5 k5 k6 hne hsub (TQ.toks (.bool _) S m q)
end
end Mine
end
section
namespace Mine
section
variable {c:Cx} {R:RR} {H:Zaa} {h h':Heap}
theorem St1.noted (S:St1 c R H h) {ls:List Addr}
  (hls:∀ a∈ls,(∃ m,R a=some (.ns m))∨(R a=none∧H a=none∧c.base.get? a=none∧∃ o vs,h.get? a=some o∧o.data = .fields vs))
  (k:∀ b o,h.get? b=some o→b ∉ ls→h'.get? b=some o) (sl:∀ b o,h.get? b=some o→(∀ vs,o.data≠.fields vs)→∃ t,h'.get? b=some { o with slots:=t })
  (hsz:c.base.objs.size≤h'.objs.size):St1 c R H h':=by
 obtain ⟨s1,s2,s3,D,s4⟩:=S
 have hb:∀ b o,c.base.get? b=some o→b ∉ ls:=fun b o e hm=>by
  rcases hls b hm with ⟨m,q⟩ | ⟨_,_,q,_⟩
  ·have:=leN (s3 b _ q).1;have:=lts e;omega
  ·rw [q] at e;contradiction
 have hH:∀ a o,H a=some o→a ∉ ls:=fun a o e hm=>by
  rcases hls a hm with ⟨m,q⟩ | ⟨_,q,_⟩
  ·have:=(s4.above a o e).2;rw [q] at this;contradiction
  ·rw [q] at e;contradiction
 refine ⟨fun b o e=>k b o (s1 b o e) (hb b o e),hsz,fun b r e=>⟨(s3 b r e).1,?_⟩,D,⟨fun a o e=>?_,s4.above,s4.dict,s4.inj⟩⟩
 ·by_cases q:b∈ls
  ·rcases hls b q with ⟨m,z⟩ | ⟨z,_⟩
   ·rw [e] at z;obtain rfl:=Option.some.inj z
    obtain ⟨o,es,ep,ho,hd,rr⟩:=(s3 b _ e).2
    obtain ⟨t,ht⟩:=sl b o ho (fun vs w=>by rw [hd] at w;contradiction)
    exact ⟨_,es,ep,ht,hd,rr⟩
   ·rw [e] at z;contradiction
  ·exact (s3 b r e).2.agree fun ob z=>k b ob z q
 ·refine (s4.rep a o e).agree (fun ob z=>k a ob z (hH a o e)) fun cl es eo=>⟨rfl,fun ob z=>?_⟩
  subst eo
  refine k _ ob z fun hm=>?_
  obtain ⟨_,y2,y3⟩:=s4.dict a cl es e
  rcases hls _ hm with ⟨m,q⟩ | ⟨_,_,_,o',vs,q1,q2⟩
  ·rw [q] at y2;contradiction
  ·obtain ⟨_,ents,n,w,_⟩:=s4.rep a _ e
   rw [w] at q1;cases q1;cases q2
theorem St1.frames (S:St1 c R H h) {l:List Env} (hs:Stk R l) {B:Heap} (hB:∀ e∈l,B.get? e.locals=none):h.FunFrames B l:=by
 induction l with
 | nil=>trivial
 | cons e l ih =>
  have F:=hs e (.head _)
  obtain ⟨m,hm⟩:=F.ns
  obtain ⟨o,es,ep,ho,hd,_⟩:=(S.res _ _ hm).2
  exact ⟨by refine rl F.kind ?_;simp,⟨e.locals,o,F.frame,hB e (.head _),ho,fun vs w=>by rw [hd] at w;contradiction⟩,ih (fun x hx=>hs x (.tail _ hx)) fun x hx=>hB x (.tail _ hx)⟩
noncomputable def FlOk (env:Env) (fl:Value):Prop:=fl = .ellipsis∨fl = .none∨fl=rawInt env.locals
theorem Zkp {e:Addr} {cl:String} {env:Env} {outer:List Env} {ls:List Addr} {a0 fl:Value} (X:St1 c R H h) (re:R e=none) (he:H e=none) (be:c.base.get? e=none) (hs:Stk R (env::outer))
  (hls:∀ a∈ls,(∃ m,R a=some (.ns m))∨(R a=none∧H a=none∧c.base.get? a=none∧∃ o vs,h.get? a=some o∧o.data = .fields vs))
  (N:Heap.NotedW (hideAll h ls) (env::outer) e (.ref (c.ca cl)) a0 fl h h') (hfl:fl≠.ellipsis) (kn:(c.P.excs.lookup cl).isSome=true):ExcSt1 c R H e cl fl h':=by
 have n1:=N.1
 have n2:=N.2.1
 have n3:=N.2.2.1
 have n4:=N.2.2.2
 have F:=hs env (.head _)
 obtain ⟨m,hm⟩:=F.ns
 obtain ⟨o,es,ep,ho,hd,_⟩:=(X.res _ _ hm).2
 obtain ⟨t,ht⟩:=n4 _ o ho (fun vs w=>by rw [hd] at w;contradiction)
 have hsz:c.base.objs.size≤h'.objs.size:=by
  have h1:=leN (X.res _ _ hm).1;have h2:=lts ht;omega
 have S':=X.noted hls (fun b o e q=>n1 b o (hideAll_get _ e q)) n4 hsz
 obtain ⟨oe,vs,T,oT,ts,h1,⟨h2,h3⟩,h4,h5,h6,h7,h8,h9,h10⟩:=n3
 have out:∀ b o,h.get? b=some o→b ∉ ls→b≠T:=fun b o e q z=>by
  have:=hideAll_get ls e q
  rw [z,h6] at this;contradiction
 refine ⟨S',re,he,be,.traced h1 h2 h4 h3 h5 h7 ?_ ?_ ?_ h8 h9 h10 hfl,kn⟩
 ·cases q:R T with
  | none=>rfl
  | some r =>
   exfalso
   obtain ⟨ob,hob⟩:=(X.res _ _ q).2.there
   by_cases z:T∈ls
   ·rcases hls T z with ⟨m',q'⟩ | ⟨q',_⟩
    ·obtain ⟨o',es',ep',ho',hd',_⟩:=(S'.res _ _ q').2
     rw [h8] at ho';cases ho';rw [h9] at hd';cases hd'
    ·rw [q] at q';contradiction
   ·exact out T ob hob z rfl
 ·cases q:H T with
  | none=>rfl
  | some r =>
   exfalso
   obtain ⟨D,s4⟩:=X.rep
   obtain ⟨ob,hob⟩:=(s4.rep _ _ q).there
   by_cases z:T∈ls
   ·rcases hls T z with ⟨m',q'⟩ | ⟨_,q',_⟩
    ·have:=(s4.above _ _ q).2;rw [q'] at this;contradiction
    ·rw [q] at q';contradiction
   ·exact out T ob hob z rfl
 ·cases q:c.base.get? T with
  | none=>rfl
  | some ob =>
   exfalso
   by_cases z:T∈ls
   ·rcases hls T z with ⟨m',q'⟩ | ⟨_,_,q',_⟩
    ·have:=leN (X.res _ _ q').1;have:=lts q;omega
    ·rw [q] at q';contradiction
   ·exact out T ob (X.stays _ _ q) z rfl
set_option tactic.hygienic true in
theorem Zkq {M:Model} {A:Around} {E:Value→Shared→Prop} {s:Shared} {e:Addr} {cl:String} {fl:Value} {env:Env} {outer:List Env} {Q:Unit→Shared→Prop} (hfr:A.frames=some (env::outer)) (hs:Stk R (env::outer))
  (X:ExcSt1 c R H e cl fl s.heap) (hfl:FlOk env fl) (q:∀ h',ExcSt1 c R H e cl (rawInt env.locals) h'→Q () { s with heap:=h' }):wpAny M A (noteFrame (.ref e) env) Q E s:=by
 obtain ⟨st,re,he,be,ob,kn⟩:=X
 have F:=hs env (.head _)
 cases ob with
 | fresh h1 =>
  have hls:∀ a∈e::(env::outer).map (·.locals),(∃ m,R a=some (.ns m))∨(R a=none∧H a=none∧c.base.get? a=none∧∃ o vs,s.heap.get? a=some o∧o.data = .fields vs):=by
   intro a ha
   rcases List.mem_cons.mp ha with rfl | ha
   ·exact .inr ⟨re,he,be,_,_,h1,rfl⟩
   ·obtain ⟨x,hx,rfl⟩:=List.mem_map.mp ha
    exact .inl (hs x hx).ns
  unfold noteFrame
  simp only [F.frame]
  refine wpAny_bind (wpAny_field h1 rfl (x:=.none) rfl ?_)
  refine rl (if_neg (by decide)) ?_
  refine wpAny_entryW (base:=hideAll s.heap (e::(env::outer).map (·.locals))) (a0:=_) hfr (st.frames hs fun x hx=>hideAll_none _ (List.mem_cons_of_mem _ (List.mem_map_of_mem hx))) F.frame h1 (fun b o z=>of_hideAll _ z) (hideAll_none _ (List.mem_cons_self ..)) rfl (by simp) rfl fun h' N=>q h' ?_
  exact Zkp st re he be hs hls N (by simp [rawInt]) kn
 | traced h1 h2 h3 h4 h5 h6 h7 h8 h9 h10 h11 h12 h13 =>
  rename_i oe vs T oT ts a0
  rcases hfl with rfl | rfl | rfl
  ·exact absurd rfl h13
  ·have hls:∀ a∈e::T::(env::outer).map (·.locals),(∃ m,R a=some (.ns m))∨(R a=none∧H a=none∧c.base.get? a=none∧∃ o vs,s.heap.get? a=some o∧o.data = .fields vs):=by
    intro a ha
    rcases List.mem_cons.mp ha with rfl | ha
    ·exact .inr ⟨re,he,be,_,_,h1,h3⟩
    ·rcases List.mem_cons.mp ha with rfl | ha
     ·exact .inr ⟨h7,h8,h9,_,_,h10,h11⟩
     ·obtain ⟨x,hx,rfl⟩:=List.mem_map.mp ha
      exact .inl (hs x hx).ns
   refine wpAny_noteFrame_onW (base:=hideAll s.heap (e::T::(env::outer).map (·.locals))) (cls:=.ref (c.ca cl)) (a0:=a0) hfr (st.frames hs fun x hx=>hideAll_none _ (List.mem_cons_of_mem _ (List.mem_cons_of_mem _ (List.mem_map_of_mem hx)))) F.frame
    ⟨oe,vs,T,oT,ts,h1,⟨h2,h4⟩,h3,h5,hideAll_none _ (List.mem_cons_of_mem _ (List.mem_cons_self ..)),h6,h10,h11,h12⟩ (fun b o z=>of_hideAll _ z) (hideAll_none _ (List.mem_cons_self ..)) fun h' N=>q h' ?_
   exact Zkp st re he be hs hls N (by simp [rawInt]) kn
  ·refine wpAny_noteFrame_againW (base:=hideAll s.heap [T]) (cls:=.ref (c.ca cl)) (a0:=a0) F.frame ⟨oe,vs,T,oT,ts,h1,⟨h2,h4⟩,h3,h5,hideAll_none _ (List.mem_cons_self ..),h6,h10,h11,h12⟩ ?_
   have:=q s.heap ⟨st,re,he,be,.traced h1 h2 h3 h4 h5 h6 h7 h8 h9 h10 h11 h12 h13,kn⟩
   exact this
set_option tactic.hygienic true in
theorem Zhu {M:Model} {A:Around} {E:Value→Shared→Prop} {s:Shared} {e:Addr} {cl:String} {fl:Value} {f:Option Addr} {Q:Unit→Shared→Prop}
  (X:ExcSt1 c R H e cl fl s.heap) (hfl:fl≠.ellipsis) (q:∀ h',ExcSt1 c R H e cl (f.elim .none fun f=>rawInt f) h'→Q () { s with heap:=h' }):wpAny M A (setFlight (.ref e) f) Q E s:=by
 obtain ⟨st,re,he,be,ob,kn⟩:=X
 cases ob with
 | fresh h1=>exact absurd rfl hfl
 | traced h1 h2 h3 h4 h5 h6 h7 h8 h9 h10 h11 h12 h13 =>
  rename_i oe vs T oT ts a0
  have hsz3:3<ts.size:=(Array.getElem?_eq_some_iff.mp h12).1
  have other:∀ b,b≠T→(s.heap.update T (Obj.mapFields (·.setIfInBounds 3 (f.elim Value.none fun f=>rawInt f)))).get? b=s.heap.get? b :=
   fun b hb=>Heap.get?_update_other _ _ (Ne.symm hb)
  unfold setFlight
  refine wpAny_bind (wpAny_field h1 h3 h5 ?_)
  refine rl (if_pos (show (Value.ref T != Value.none)=true from by simp)) ?_
  refine wpAny_setField h10 h11 hsz3 (q _ ⟨?_,re,he,be,?_,kn⟩)
  ·refine st.noted (ls:=[T]) (fun a ha=>.inr ?_) (fun b o hb hn=>(other b (by simpa using hn)).trans hb) (fun b o hb hn=>⟨o.slots,(other b (fun z=>?_)).trans hb⟩) ?_
   ·simp only [List.mem_singleton] at ha
    subst ha
    exact ⟨h7,h8,h9,_,_,h10,h11⟩
   ·rw [z,h10] at hb;obtain rfl:=Option.some.inj hb;exact hn _ h11
   ·refine rl (Heap.size_update ..) ?_;exact st.size
  ·exact .traced ((other e (Ne.symm h6)).trans h1) h2 h3 h4 h5 h6 h7 h8 h9 (Heap.get?_update_self _ h10 (Obj.isFreed_of_fields (Obj.data_mapFields h11 _))) (Obj.data_mapFields h11 _) (by simp [hsz3]) (by cases f<;>simp [rawInt])
theorem Zoa {M:Model} {A:Around} {E:Value→Shared→Prop} {s:Shared} {e:Addr} {cl:String} {fl:Value} {env:Env} {outer:List Env} {Q:Unit→Shared→Prop} (hfr:A.frames=some (env::outer)) (hs:Stk R (env::outer))
  (X:ExcSt1 c R H e cl fl s.heap) (hfl:FlOk env fl) (q:∀ h',ExcSt1 c R H e cl .none h'→Q () { s with heap:=h' }):wpAny M A (leaving env (.ref e)) Q E s:=by
 unfold leaving
 exact wpAny_bind (Zkq hfr hs X hfl fun h₁ X1=>Zhu (s:={ s with heap:=h₁ }) X1 (by simp [rawInt]) fun h₂ X2=>q h₂ X2)
end
section
variable {c:Cx} {R:RR} {H:Zaa} {h h':Heap}
theorem Zm4 {M:Model} {A:Around} {E:Value→Shared→Prop} {s:Shared} {e:Addr} {cl:String} {fl:Value} {env:Env} {outer:List Env} {Q:Unit→Shared→Prop} (hfr:A.frames=some (env::outer)) (hs:Stk R (env::outer))
  (X:ExcSt c R H e cl fl s.heap) (hfl:FlOk env fl) (q:∀ h',ExcSt c R H e cl (rawInt env.locals) h'→Q () { s with heap:=h' }):wpAny M A (noteFrame (.ref e) env) Q E s :=
 let ⟨H₁,X,r⟩:=X;Zkq hfr hs X hfl fun h' X'=>q h' ⟨H₁,X',r⟩
theorem Ze1 {M:Model} {A:Around} {E:Value→Shared→Prop} {s:Shared} {e:Addr} {cl:String} {fl:Value} {f:Option Addr} {Q:Unit→Shared→Prop}
  (X:ExcSt c R H e cl fl s.heap) (hfl:fl≠.ellipsis) (q:∀ h',ExcSt c R H e cl (f.elim .none fun f=>rawInt f) h'→Q () { s with heap:=h' }):wpAny M A (setFlight (.ref e) f) Q E s :=
 let ⟨H₁,X,r⟩:=X;Zhu X hfl fun h' X'=>q h' ⟨H₁,X',r⟩
theorem Zqu {M:Model} {A:Around} {E:Value→Shared→Prop} {s:Shared} {e:Addr} {cl:String} {fl:Value} {env:Env} {outer:List Env} {Q:Unit→Shared→Prop} (hfr:A.frames=some (env::outer)) (hs:Stk R (env::outer))
  (X:ExcSt c R H e cl fl s.heap) (hfl:FlOk env fl) (q:∀ h',ExcSt c R H e cl .none h'→Q () { s with heap:=h' }):wpAny M A (leaving env (.ref e)) Q E s :=
 let ⟨H₁,X,r⟩:=X;Zoa hfr hs X hfl fun h' X'=>q h' ⟨H₁,X',r⟩
theorem ExcSt.st {e:Addr} {cl:String} {fl:Value} (X:ExcSt c R H e cl fl h):St c R H h:=let ⟨H₁,X,r⟩:=X;⟨H₁,X.st,r⟩
theorem ExcSt.he {e:Addr} {cl:String} {fl:Value} (X:ExcSt c R H e cl fl h):H e=none:=let ⟨_,X,r⟩:=X;r.none X.he
theorem ExcSt.kn {e:Addr} {cl:String} {fl:Value} (X:ExcSt c R H e cl fl h):(c.P.excs.lookup cl).isSome=true:=let ⟨_,X,_⟩:=X;X.kn
end
end Mine
end
section
namespace Mine
noncomputable def Zcj (R:RR) (a:Addr):RR:=fun b=>if b=a then none else R b
theorem Zev {R:RR} {a:Addr}:∀ b r,Zcj R a b=some r→R b=some r:=fun b r e=>by
 unfold Zcj at e;split at e
 ·contradiction
 ·exact e
theorem Za3 {R:RR} {a b:Addr} (h:b≠a):Zcj R a b=R b:=by simp [Zcj,h]
theorem Zb7 {R:RR} {a:Addr}:Zcj R a a=none:=by simp [Zcj]
noncomputable def ItObj (H:Zaa) (v:AV) (k:Nat) (o:Obj):Prop :=
 match v with
 | .ref a=>(match H a with
  | some (.list _)=>o.cls = .type "list_iterator"∧o.data = .fields #[.ref a,.int k 0]
  | some (.tuple _)=>o.cls = .type "tuple_iterator"∧o.data = .fields #[.ref a,.int k 0]
  | some (.range lo hi)=>o = { cls:=.type "range_iterator",dict:=none,data:=.fields #[rawInt (lo+k),rawInt (((hi - lo).toNat:Int) - k),rawInt 1],slots:=#[] }
  | some (.dict ep es)=>o.cls = .type "dict_keyiterator"∧o.data = .fields #[.ref a,.int k 0,.int es.length 0,.int ep 0]
  | _=>False)
 | .str s=>∃ t,(o.cls = .type "str_ascii_iterator"∨o.cls = .type "str_iterator")∧o.data = .fields #[.str s t,.int k 0]
 | _=>False
theorem ItObj.same {H H':Zaa} {v:AV} {k:Nat} {o:Obj} (h:ItObj H v k o) (e:Zed H H' v):ItObj H' v k o:=by
 cases v with
 | ref a=>dsimp only [Zed] at e;simp only [ItObj] at h ⊢;refine rl e ?_;exact h
 | str s=>exact h
 | _=>exact h
theorem Zo6 {a b:Int}:Builtin.Range.rangeSize a b 1=((b - a).toNat:Int):=by
 unfold Builtin.Range.rangeSize
 simp only [Int.ediv_one,show (1:Int) > 0 from by decide,if_true]
 split<;>omega
theorem Zsa {a b:Int} (h:RgOk a b):Builtin.Range.small a b 1=true:=by
 unfold Builtin.Range.small Builtin.Range.rangeFitsLong
 refine rl Zo6 ?_
 obtain ⟨h1,h2,h3,h4⟩:=h
 simp only [show (1:Int) > 0 from by decide,if_true,Bool.and_eq_true,Bool.or_eq_true,decide_eq_true_eq,beq_iff_eq]
 refine ⟨⟨⟨⟨⟨?_,?_⟩,⟨?_,?_⟩⟩,⟨?_,?_⟩⟩,⟨?_,?_⟩⟩,.inr ⟨?_,?_⟩⟩<;>omega
section
variable {c:Cx} {R:RR} {H:Zaa} {A:Around} {E:Value→Shared→Prop} {s:Shared}
theorem Zf8 {o:Obj} {Q:Value→Shared→Prop} (hnf:o.isFreed=false) (S:St c R H s.heap) (q:∀ s' a,R a=none→H a=none→St c (rup R a (.obj o)) H s'.heap→Sm s s'→Q (.ref a) s'):Q (.ref s.heap.objs.size) { s with heap:=s.heap.push o }:=by
 obtain ⟨h1,h2,h3⟩:=S.newRes (x:=s.heap.objs.size) (r:=.obj o) (h':=s.heap.push o) (Nat.le_refl _) (fun _ _ z=>Heap.get?_push_of_some _ z) (by refine rl (Heap.size_push ..) ?_;omega) (Heap.get?_push_size _ hnf)
 exact q _ _ h1 h2 h3 ⟨_,_,rfl⟩
set_option tactic.hygienic true in
theorem Zp9 {mg mb:Str→Option Value} {v:AV} {u:Value} {xs:List AV} {Q:Value→Shared→Prop} (C:c.Ok mg mb) (hv:VR v u) (S:St c R H s.heap) (hx:Zap H v=some xs)
  (q:∀ s' a o,R a=none→H a=none→ItObj H v 0 o→St c (rup R a (.obj o)) H s'.heap→Sm s s'→Q (.ref a) s'):wpAny (model c.prog c.w) A (pyIter u) Q E s:=by
 cases hv with
 | ref a =>
  simp only [Zap] at hx
  split at hx
  ·rename_i ys e
   obtain ⟨vs,n,k1,k2,k3⟩:=Zbc (g:=⟨c,0,true⟩) S e
   exact wpAny_pyIter_list k3 (Zf8 rfl S fun s' b h1 h2 h3 h4=>q s' b _ h1 h2 (by simp [ItObj,e]) h3 h4)
  ·rename_i ys e
   obtain ⟨vs,n,k1,k2,k3⟩:=Zc0 (g:=⟨c,0,true⟩) S e
   exact wpAny_pyIter_tuple ⟨_,k1,rfl,_,rfl⟩ (Zf8 rfl S fun s' b h1 h2 h3 h4=>q s' b _ h1 h2 (by simp [ItObj,e]) h3 h4)
  ·rename_i lo hi e
   obtain ⟨⟨D,rg,t,u,w,hr⟩,_⟩:=S.orep e
   exact wpAny_pyIter_range hr (Zsa rg) (Zf8 rfl S fun s' b h1 h2 h3 h4=>q s' b _ h1 h2 (by simp [ItObj,e,Zo6]) h3 h4)
  ·rename_i ep es e
   obtain ⟨kvs,hd,hr⟩:=Zbk (g:=⟨c,0,true⟩) S e
   have hl:=hr.length
   refine wpAny_pyIter_dict (Zio (g:=⟨c,0,true⟩) C S e) hd (Zf8 rfl S fun s' b h1 h2 h3 h4=>q s' b _ h1 h2 ?_ h3 h4)
   simp [ItObj,e,hl]
  ·cases hx
 | str x t =>
  cases ha:x.cps.all (· < 128)
  ·exact wpAny_pyIter_wide ha (Zf8 rfl S fun s' b h1 h2 h3 h4=>q s' b _ h1 h2 ⟨t,.inr rfl,rfl⟩ h3 h4)
  ·exact wpAny_pyIter_ascii ha (Zf8 rfl S fun s' b h1 h2 h3 h4=>q s' b _ h1 h2 ⟨t,.inl rfl,rfl⟩ h3 h4)
 | none=>cases hx
 | bool b=>cases hx
 | int i t=>contradiction
theorem Zuy {x:Str} {i ch:Nat} (h:PyData.strOk x=true) (e:x.cps[i]? = some ch):PyData.strOk ⟨#[ch]⟩=true :=
 Zi0 (l:=[ch]) (by intro c hc;simp at hc;subst hc;exact Zg6 h (Array.mem_of_getElem? e))
theorem DRs.get {es:List (Str×AV)} {kvs:List (Str×Value)} (h:DRs es kvs):∀ {k:Nat} {n:Str} {a:AV},es[k]? = some (n,a)→PyData.strOk n=true∧∃ v,kvs[k]? = some (n,v):=by
 induction h with
 | nil=>intro k n a e;simp at e
 | cons h1 h2 _ ih =>
  intro k n a e
  cases k with
  | zero=>simp at e;obtain ⟨rfl,rfl⟩:=e;exact ⟨h1,_,rfl⟩
  | succ k=>simp at e ⊢;exact ih e
set_option tactic.hygienic true in
theorem Zlw {v:AV} {xs:List AV} {x:AV} {k:Nat} {a:Addr} {o:Obj} {Q:Option Value→Shared→Prop} (hx:Zap H v=some xs) (hk:xs[k]? = some x) (hi:ItObj H v k o) (hr:R a=some (.obj o)) (S:St c R H s.heap)
  (hsv:∀ y,v = .str y→PyData.strOk y=true)
  (q:∀ s' u o',VR x u→ItObj H v (k+1) o'→St c (rup R a (.obj o')) H s'.heap→Sm s s'→Q (some u) s'):wpAny (model c.prog c.w) A (pyNext (.ref a)) Q E s:=by
 have ho:s.heap.get? a=some o:=(S.res _ _ hr).2
 cases v with
 | ref p =>
  simp only [Zap] at hx
  split at hx
  ·rename_i ys e
   obtain rfl:=Option.some.inj hx
   obtain ⟨vs,n,k1,k2,k3⟩:=Zbc (g:=⟨c,0,true⟩) S e
   obtain ⟨w,hw,hvr⟩:=k2.get hk
   simp only [ItObj,e] at hi
   refine wpAny_pyNext_list_item ⟨o,ho,hi.1,hi.2⟩ k3 (by simpa using hw) fun h' ⟨o',p1,p2,p3⟩ hs=>?_
   exact q _ w o' hvr (by simp only [ItObj,e];exact ⟨p2,p3⟩) (S.setRes hr hs p1) ⟨_,_,rfl⟩
  ·rename_i ys e
   obtain rfl:=Option.some.inj hx
   obtain ⟨vs,n,k1,k2,k3⟩:=Zc0 (g:=⟨c,0,true⟩) S e
   obtain ⟨w,hw,hvr⟩:=k2.get hk
   simp only [ItObj,e] at hi
   refine wpAny_pyNext_tuple_item (items:=vs.toArray) ⟨o,ho,hi.1,hi.2⟩ ⟨_,k1,rfl,_,rfl⟩ (by simpa using hw) fun h' ⟨o',p1,p2,p3⟩ hs=>?_
   exact q _ w o' hvr (by simp only [ItObj,e];exact ⟨p2,p3⟩) (S.setRes hr hs p1) ⟨_,_,rfl⟩
  ·rename_i lo hi' e
   obtain rfl:=Option.some.inj hx
   simp only [ItObj,e] at hi
   subst hi
   have hlt:k<(hi' - lo).toNat:=by
    have:=(List.getElem?_eq_some_iff.mp hk).1
    simpa using this
   have hxe:x = .int (lo+k):=by
    rw [List.getElem?_map,List.getElem?_range hlt] at hk
    simpa using hk.symm
   subst hxe
   refine wpAny_pyNext_range_item (x:=lo+k) (left:=((hi' - lo).toNat:Int) - k) (step:=1) ho (by omega) fun h' p1 hs=>?_
   refine q _ _ _ (.int _ _) ?_ (S.setRes (r':=.obj _) hr hs p1) ⟨_,_,rfl⟩
   simp only [ItObj,e]
   have e1:lo+(k:Int)+1=lo+((k+1:Nat):Int):=by omega
   have e2:((hi' - lo).toNat:Int) - k - 1=((hi' - lo).toNat:Int) - ((k+1:Nat):Int):=by omega
   exact rl e1 (rl e2 rfl)
  ·rename_i ep es e
   obtain rfl:=Option.some.inj hx
   obtain ⟨kvs,hd,hr'⟩:=Zbk (g:=⟨c,0,true⟩) S e
   have hl:=hr'.length
   simp only [ItObj,e] at hi
   rw [List.getElem?_map,Option.map_eq_some_iff] at hk
   obtain ⟨⟨kk,av⟩,hk1,hk2⟩:=hk
   obtain ⟨hso,vv,hkv⟩:=hr'.get hk1
   subst hk2
   refine wpAny_pyNext_dict_item (k:=kk) (v:=vv) ⟨o,ho,hi.1,by rw [hl];exact hi.2⟩ hd hkv fun key h' hkey ⟨o',p1,p2,p3⟩ hs=>?_
   obtain ⟨t,rfl⟩:=Zg7 hkey
   exact q _ _ o' (.str _ _ hso) (by simp only [ItObj,e];exact ⟨p2,by rw [← hl];exact p3⟩) (S.setRes hr hs p1) ⟨_,_,rfl⟩
  ·cases hx
 | str y =>
  obtain rfl:=Option.some.inj hx
  rw [List.getElem?_map,Option.map_eq_some_iff] at hk
  obtain ⟨ch,hk1,rfl⟩:=hk
  have hch:y.cps[k]? = some ch:=by rw [← Array.getElem?_toList];exact hk1
  obtain ⟨t,hc,hd⟩:=hi
  have hok:=Zuy (hsv y rfl) hch
  rcases hc with hc | hc
  ·refine wpAny_pyNext_ascii_item ⟨o,ho,hc,hd⟩ hch fun h' ⟨o',p1,p2,p3⟩ hs=>?_
   exact q _ _ o' (.str _ _ hok) ⟨t,.inl p2,p3⟩ (S.setRes hr hs p1) ⟨_,_,rfl⟩
  ·refine wpAny_pyNext_wide_item ⟨o,ho,hc,hd⟩ hch fun h' ⟨o',p1,p2,p3⟩ hs=>?_
   exact q _ _ o' (.str _ _ hok) ⟨t,.inr p2,p3⟩ (S.setRes hr hs p1) ⟨_,_,rfl⟩
 | none=>cases hx
 | bool b=>cases hx
 | int i=>contradiction
theorem St1.dropAny {h h':Heap} {a:Addr} {r₀:Res} (S:St1 c R H h) (hr:R a=some r₀) (k:Heap.ExtBut a h h') (hsz:c.base.objs.size≤h'.objs.size):St1 c (Zcj R a) H h':=by
 obtain ⟨s1,s2,s3,D,s4⟩:=S
 have nn:∀ b,R b=none→Zcj R a b=none:=fun b e=>by
  cases q:Zcj R a b with
  | none=>rfl
  | some r=>rw [Zev b r q] at e;contradiction
 refine ⟨fun b o' e=>k b o' (fun z=>?_) (s1 b o' e),hsz,fun b r e=>⟨(s3 b r (Zev b r e)).1,(s3 b r (Zev b r e)).2.agree fun ob z=>k b ob (fun w=>?_) z⟩,D,⟨fun b ao e=>?_,fun b ao e=>⟨(s4.above b ao e).1,nn _ (s4.above b ao e).2⟩,fun b cl es e=>?_,s4.inj⟩⟩
 ·have:=leN (s3 a _ hr).1;have:=lts e;rw [z] at this;omega
 ·rw [w,Zb7] at e;contradiction
 ·refine (s4.rep b ao e).agree (fun ob z=>k b ob (fun w=>?_) z) fun cl es eo=>⟨rfl,fun ob z=>k _ ob (fun w=>?_) z⟩
  ·have:=(s4.above b ao e).2;rw [w,hr] at this;contradiction
  ·subst eo;have:=(s4.dict b cl es e).2.1;rw [w,hr] at this;contradiction
 ·obtain ⟨y1,y2,y3⟩:=s4.dict b cl es e
  exact ⟨y1,nn _ y2,y3⟩
theorem St.dropAny {h h':Heap} {a:Addr} {r₀:Res} (S:St c R H h) (hr:R a=some r₀) (k:Heap.ExtBut a h h') (hsz:c.base.objs.size≤h'.objs.size):St c (Zcj R a) H h':=let ⟨H₁,s,r⟩:=S;⟨H₁,s.dropAny hr k hsz,r⟩
set_option tactic.hygienic true in
theorem Zqb {v:AV} {xs:List AV} {k:Nat} {a L:Addr} {m:Str→Option Value} {o:Obj} {Q:Option Value→Shared→Prop} (hh:A.handled=none) (hx:Zap H v=some xs) (hk:xs[k]? = none) (hi:ItObj H v k o) (hr:R a=some (.obj o)) (hL:R L=some (.ns m)) (S:St c R H s.heap)
  (q:∀ s',St c (Zcj R a) H s'.heap→Sm s s'→Q none s'):wpAny (model c.prog c.w) A (pyNext (.ref a)) Q E s:=by
 have ho:s.heap.get? a=some o:=(S.res _ _ hr).2
 have fin:∀ h',Heap.ExtBut a s.heap h'→Q none { s with heap:=h' }:=fun h' k=>by
  refine q _ (S.dropAny hr k ?_) ⟨_,_,rfl⟩
  obtain ⟨oL,es,ep,w,_⟩:=(S.res _ _ hL).2
  have h1:=leN (S.res _ _ hL).1
  have h2:=lts (k L oL (fun z=>by rw [z,hr] at hL;cases hL) w)
  exact Nat.le_of_lt (Nat.lt_of_le_of_lt h1 h2)
 cases v with
 | ref p =>
  simp only [Zap] at hx
  split at hx
  ·rename_i ys e
   obtain rfl:=Option.some.inj hx
   obtain ⟨vs,n,k1,k2,k3⟩:=Zbc (g:=⟨c,0,true⟩) S e
   simp only [ItObj,e] at hi
   refine wpAny_pyNext_list_end hh ⟨o,ho,hi.1,hi.2⟩ k3 ?_ fin
   have:=k2.length
   simp at hk ⊢;omega
  ·rename_i ys e
   obtain rfl:=Option.some.inj hx
   obtain ⟨vs,n,k1,k2,k3⟩:=Zc0 (g:=⟨c,0,true⟩) S e
   simp only [ItObj,e] at hi
   refine wpAny_pyNext_tuple_end (items:=vs.toArray) hh ⟨o,ho,hi.1,hi.2⟩ ⟨_,k1,rfl,_,rfl⟩ ?_ fin
   have:=k2.length
   simp at hk ⊢;omega
  ·rename_i lo hi' e
   obtain rfl:=Option.some.inj hx
   simp only [ItObj,e] at hi
   subst hi
   have hlt:(hi' - lo).toNat≤k:=by simpa using hk
   exact wpAny_pyNext_range_end (x:=lo+k) (left:=((hi' - lo).toNat:Int) - k) (step:=1) hh ho (by omega) fin
  ·rename_i ep es e
   obtain rfl:=Option.some.inj hx
   obtain ⟨kvs,hd,hr'⟩:=Zbk (g:=⟨c,0,true⟩) S e
   have hl:=hr'.length
   simp only [ItObj,e] at hi
   refine wpAny_pyNext_dict_end hh ⟨o,ho,hi.1,by refine rl hl ?_;exact hi.2⟩ hd ?_ fin
   simp at hk ⊢;omega
  ·cases hx
 | str y =>
  obtain rfl:=Option.some.inj hx
  have hch:y.cps[k]? = none:=by refine rl (Eq.symm (Array.getElem?_toList)) ?_;simpa using hk
  obtain ⟨t,hc,hd⟩:=hi
  rcases hc with hc | hc
  ·exact wpAny_pyNext_ascii_end hh ⟨o,ho,hc,hd⟩ hch fin
  ·exact wpAny_pyNext_wide_end hh ⟨o,ho,hc,hd⟩ hch fin
 | none=>cases hx
 | bool b=>cases hx
 | int i=>contradiction
end
end Mine
end
section
namespace Mine
noncomputable def RStep (env:Env) (R R':RR):Prop:=∀ b,R' b=R b∨(b=env.locals∧∃ m m',R b=some (.ns m)∧R' b=some (.ns m'))∨((∃ n,env.cells.lookup n=some b)∧∃ x x',R b=some (.cell x)∧R' b=some (.cell x'))
theorem RStep.refl {env:Env} {R:RR}:RStep env R R:=fun _=>.inl rfl
theorem RStep.trans {env:Env} {R R' R'':RR} (x:RStep env R R') (y:RStep env R' R''):RStep env R R'':=fun b=>by
 rcases x b with h | ⟨h1,m,m',h2,h3⟩ | ⟨h1,m,m',h2,h3⟩
 ·rcases y b with k | ⟨k1,m,m',k2,k3⟩ | ⟨k1,m,m',k2,k3⟩
  ·exact .inl (k.trans h)
  ·exact .inr (.inl ⟨k1,m,m',by refine rl h.symm ?_;exact k2,k3⟩)
  ·exact .inr (.inr ⟨k1,m,m',by refine rl h.symm ?_;exact k2,k3⟩)
 ·rcases y b with k | ⟨k1,n,n',k2,k3⟩ | ⟨k1,n,n',k2,k3⟩
  ·exact .inr (.inl ⟨h1,m,m',h2,by refine rl k ?_;exact h3⟩)
  ·exact .inr (.inl ⟨h1,m,n',h2,k3⟩)
  ·rw [h3] at k2;cases k2
 ·rcases y b with k | ⟨k1,n,n',k2,k3⟩ | ⟨k1,n,n',k2,k3⟩
  ·exact .inr (.inr ⟨h1,m,m',h2,by refine rl k ?_;exact h3⟩)
  ·rw [h3] at k2;cases k2
  ·exact .inr (.inr ⟨h1,m,n',h2,k3⟩)
theorem RStep.ns {env:Env} {R R':RR} (x:RStep env R R') {a:Addr} {m} (h:R a=some (.ns m)):∃ m',R' a=some (.ns m'):=by
 rcases x a with k | ⟨_,_,m',_,k⟩ | ⟨_,_,_,k,_⟩
 ·exact ⟨m,k.trans h⟩
 ·exact ⟨m',k⟩
 ·rw [h] at k;cases k
theorem RStep.obj {env:Env} {R R':RR} (x:RStep env R R') {a:Addr} {o} (h:R a=some (.obj o)):R' a=some (.obj o):=by
 rcases x a with k | ⟨_,_,m',k,_⟩ | ⟨_,_,_,k,_⟩
 ·exact k.trans h
 ·rw [h] at k;cases k
 ·rw [h] at k;cases k
theorem RStep.none {env:Env} {R R':RR} (x:RStep env R R') {a:Addr} (h:R a=Option.none):R' a=Option.none:=by
 rcases x a with k | ⟨_,_,m',k,_⟩ | ⟨_,_,_,k,_⟩
 ·exact k.trans h
 ·rw [h] at k;contradiction
 ·rw [h] at k;contradiction
theorem RStep.stk {env:Env} {R R':RR} (x:RStep env R R') {l:List Env} (h:Stk R l):Stk R' l:=fun e he =>
 let F:=h e he
 ⟨F.kind,F.frame,F.gen,F.co,F.blt,F.glob,let ⟨_,hm⟩:=F.ns;x.ns hm⟩
theorem Ev.step {g:Gx} {A:Around} {R R':RR} {env e:Env} {l:List Env} (x:RStep env R R') (h:Ev g A R e l):Ev g A R' e l:=⟨h.aok,x.stk h.stk⟩
theorem Frm.congr {R R':RR} {env:Env} {sc:Scope} {nm:List Str} {V:VV} (fr:Frm R env sc nm V) (h:∀ b,(∃ m,R b=some (.ns m))∨(∃ x,R b=some (.cell x))→R' b=R b):Frm R' env sc nm V:=by
 obtain ⟨k1,k2,k3,k4,k5,k6,k7,kc,kl,k8,⟨m,n1,n2⟩,k9⟩:=fr
 refine ⟨k1,k2,k3,k4,k5,k6,k7,kc,kl,k8,⟨m,(h _ (.inl ⟨m,n1⟩)).trans n1,n2⟩,fun i n hn hk=>?_⟩
 obtain ⟨a,x,v,c1,c2,c3⟩:=k9 i n hn hk
 exact ⟨a,x,v,c1,(h _ (.inr ⟨x,c2⟩)).trans c2,c3⟩
section
variable {c:Cx} {R:RR} {H:Zaa} {V:VV} {env:Env} {sc:Scope} {nm:List Str}
theorem Frm.local' (fr:Frm R env sc nm V) (nd:nm.Nodup) {i:Nat} {id:Str} {x:Option AV} {w:Option Value} {m:Str→Option Value} (hi:nm[i]? = some id) (hl:env.kindOf id=some .local) (hm:R env.locals=some (.ns m)) (hv:OVW x w) :
  Frm (rup R env.locals (.ns fun y=>if y=id then w else m y)) env sc nm (V.set i x):=by
 obtain ⟨k1,k2,k3,k4,k5,k6,k7,kc,kl,k8,⟨m',n1,n2⟩,k9⟩:=fr
 rw [hm] at n1;cases n1
 have hnd:∀ {j:Nat} {n:Str},nm[j]? = some n→(n=id↔j=i):=fun {j n} hj=>by
  constructor
  ·rintro rfl
   have h1:=List.getElem?_eq_some_iff.mp hj
   have h2:=List.getElem?_eq_some_iff.mp hi
   exact (List.getElem_inj nd).mp (h1.2.trans h2.2.symm)
  ·rintro rfl;rw [hi] at hj;obtain rfl:=Option.some.inj hj;rfl
 refine ⟨k1,k2,k3,k4,k5,k6,k7,kc,by refine rl List.length_set ?_;exact kl,k8,⟨_,Zak,fun j n hj hk=>?_⟩,fun j n hj hk=>?_⟩
 ·obtain ⟨v,v1,v2⟩:=n2 j n hj hk
  by_cases q:n=id
  ·have:=(hnd hj).mp q
   subst q this
   have hlt:=(List.getElem?_eq_some_iff.mp v1).1
   exact ⟨x,by simp [hlt],by simpa using hv⟩
  ·have hne:j≠i:=fun z=>q ((hnd hj).mpr z)
   exact ⟨v,by refine rl (List.getElem?_set_ne (Ne.symm hne)) ?_;exact v1,by simp only [q,if_false];exact v2⟩
 ·obtain ⟨a,y,v,c1,c2,c3,c4⟩:=k9 j n hj hk
  have hna:a≠env.locals:=fun z=>by rw [z,hm] at c2;cases c2
  have hne:j≠i:=fun z=>by
   have:=(hnd hj).mpr z
   subst this
   rw [hl] at hk;rcases hk with hk | hk<;>contradiction
  exact ⟨a,y,v,c1,by refine rl (Zaf hna) ?_;exact c2,by refine rl (List.getElem?_set_ne (Ne.symm hne)) ?_;exact c3,c4⟩
theorem Frm.cell' (fr:Frm R env sc nm V) (nd:nm.Nodup) {i:Nat} {id:Str} {a:Addr} {x:Option AV} {w y:Option Value} (hi:nm[i]? = some id) (hl:env.kindOf id=some .cell) (ha:env.cells.lookup id=some a) (hr:R a=some (.cell y)) (hv:OVW x w) :
  Frm (rup R a (.cell w)) env sc nm (V.set i x):=by
 obtain ⟨k1,k2,k3,k4,k5,k6,k7,kc,kl,k8,⟨m',n1,n2⟩,k9⟩:=fr
 have hnd:∀ {j:Nat} {n:Str},nm[j]? = some n→(n=id↔j=i):=fun {j n} hj=>by
  constructor
  ·rintro rfl
   have h1:=List.getElem?_eq_some_iff.mp hj
   have h2:=List.getElem?_eq_some_iff.mp hi
   exact (List.getElem_inj nd).mp (h1.2.trans h2.2.symm)
  ·rintro rfl;rw [hi] at hj;obtain rfl:=Option.some.inj hj;rfl
 have hna:env.locals≠a:=fun z=>by rw [z,hr] at n1;cases n1
 refine ⟨k1,k2,k3,k4,k5,k6,k7,kc,by refine rl List.length_set ?_;exact kl,k8,⟨m',by refine rl (Zaf hna) ?_;exact n1,fun j n hj hk=>?_⟩,fun j n hj hk=>?_⟩
 ·obtain ⟨v,v1,v2⟩:=n2 j n hj hk
  have hne:j≠i:=fun z=>by
   have:=(hnd hj).mpr z
   subst this
   rw [hl] at hk;contradiction
  exact ⟨v,by refine rl (List.getElem?_set_ne (Ne.symm hne)) ?_;exact v1,v2⟩
 ·obtain ⟨b,z,v,c1,c2,c3,c4⟩:=k9 j n hj hk
  by_cases q:n=id
  ·have:=(hnd hj).mp q
   subst q this
   rw [ha] at c1;obtain rfl:=Option.some.inj c1
   have hlt:=(List.getElem?_eq_some_iff.mp c3).1
   exact ⟨a,w,x,ha,Zak,by simp [hlt],hv⟩
  ·have hne:j≠i:=fun z=>q ((hnd hj).mpr z)
   have hab:b≠a:=fun z=>q (k8 n id a (by refine rl z.symm ?_;exact c1) ha)
   exact ⟨b,z,v,c1,by refine rl (Zaf hab) ?_;exact c2,by refine rl (List.getElem?_set_ne (Ne.symm hne)) ?_;exact c3,c4⟩
theorem Zf3 {M:Model} {A:Around} {E:Value→Shared→Prop} {s:Shared} {i:Nat} {id:Str} {x:AV} {u:Value} {Q:Unit→Shared→Prop} (fr:Frm R env sc nm V) (nd:nm.Nodup) (hi:nm[i]? = some id) (hk:Zdv sc id=true) (hv:VR x u)
  (S:St c R H s.heap) (q:∀ s' R',RStep env R R'→Frm R' env sc nm (V.set i (some x))→St c R' H s'.heap→Sm s s'→Q () s'):wpAny M A (storeName env id u) Q E s:=by
 obtain ⟨m,hm,_⟩:=fr.ns
 rcases fr.lok id hk with hl | hl
 ·refine wpAny_storeName_local hl (S.res _ _ hm).2 (fun h' hn hs=>?_) (by refine rl fr.kind ?_;rfl)
  refine q _ _ (fun b=>?_) (fr.local' nd hi hl hm (.some hv)) (S.setRes (r':=.ns _) hm hs hn) ⟨_,_,rfl⟩
  by_cases z:b=env.locals
  ·subst z;exact .inr (.inl ⟨rfl,_,_,hm,Zak⟩)
  ·exact .inl (Zaf z)
 ·obtain ⟨a,y,v,c1,c2,c3,c4⟩:=fr.cell i id hi (.inl hl)
  refine wpAny_storeName_cell fr.kind hl c1 (S.res _ _ c2).2 fun h' hn hs=>?_
  refine q _ _ (fun b=>?_) (fr.cell' nd hi hl c1 c2 (.some hv)) (S.setRes (r':=.cell _) c2 hs hn) ⟨_,_,rfl⟩
  by_cases z:b=a
  ·subst z;exact .inr (.inr ⟨⟨_,c1⟩,_,_,c2,Zak⟩)
  ·exact .inl (Zaf z)
theorem ExcSt1.weaken {R':RR} {e:Addr} {cl:String} {fl:Value} {h:Heap} (X:ExcSt1 c R' H e cl fl h) (k:∀ b r,R b=some r→R' b=some r):ExcSt1 c R H e cl fl h:=by
 obtain ⟨st,re,he,be,ob,kn⟩:=X
 have nn:∀ a,R' a=none→R a=none:=fun a e=>by
  cases q:R a with
  | none=>rfl
  | some r=>rw [k a r q] at e;contradiction
 refine ⟨st.weaken k,nn _ re,he,be,?_,kn⟩
 cases ob with
 | fresh h1=>exact .fresh h1
 | traced h1 h2 h3 h4 h5 h6 h7 h8 h9 h10 h11 h12 h13=>exact .traced h1 h2 h3 h4 h5 h6 (nn _ h7) h8 h9 h10 h11 h12 h13
theorem ExcAt.obj {e:Addr} {cls fl:Value} {h:Heap} (X:ExcAt c R H h e cls fl):∃ o vs,h.get? e=some o∧o.cls=cls∧o.data = .fields vs:=by
 cases X with
 | fresh h1=>exact ⟨_,_,h1,rfl,rfl⟩
 | traced h1 h2 h3=>exact ⟨_,_,h1,h2,h3⟩
theorem ExcSt1.caught {e:Addr} {cl:String} {fl:Value} {h:Heap} (X:ExcSt1 c R H e cl fl h):St1 c R (up H e (.exc cl)) h:=by
 obtain ⟨⟨s1,s2,s3,D,s4⟩,re,he,be,ob,kn⟩:=X
 obtain ⟨o,vs,o1,o2,o3⟩:=ob.obj
 refine ⟨s1,s2,s3,D,⟨fun a ao z=>?_,fun a ao z=>?_,fun a cl' es z=>?_,fun a b cl' es cl'' es' z z'=>?_⟩⟩
 ·by_cases q:a=e
  ·subst q;rw [Zac] at z;obtain rfl:=Option.some.inj z;exact ⟨o,o1,o2,vs,o3⟩
  ·rw [Zab q] at z;exact s4.rep a ao z
 ·by_cases q:a=e
  ·subst q;rw [Zac] at z;cases z;exact ⟨⟨fun _=>be,fun w=>by cases w⟩,re⟩
  ·rw [Zab q] at z;exact s4.above a ao z
 ·by_cases q:a=e
  ·subst q;rw [Zac] at z;cases z
  ·rw [Zab q] at z
   have t7119:=s4.dict a cl' es z
   have y1:=t7119.1
   have y2:=t7119.2.1
   have y3:=t7119.2.2
   refine ⟨y1,y2,?_⟩
   rw [Zab (fun w=>?_)];· exact y3
   obtain ⟨_,ents,n,w',_⟩:=s4.rep a _ z
   rw [w,o1] at w';cases w';cases o3
 ·by_cases q:a=e
  ·subst q;rw [Zac] at z;cases z
  ·by_cases q':b=e
   ·subst q';rw [Zac] at z';cases z'
   ·rw [Zab q] at z;rw [Zab q'] at z';exact s4.inj a b cl' es cl'' es' z z'
theorem ExcSt.weaken {R':RR} {e:Addr} {cl:String} {fl:Value} {h:Heap} (X:ExcSt c R' H e cl fl h) (k:∀ b r,R b=some r→R' b=some r):ExcSt c R H e cl fl h:=let ⟨H₁,X,r⟩:=X;⟨H₁,X.weaken k,r⟩
theorem ExcSt.obj {e:Addr} {cl:String} {fl:Value} {h:Heap} (X:ExcSt c R H e cl fl h):∃ o vs,h.get? e=some o∧o.cls = .ref (c.ca cl)∧o.data = .fields vs:=let ⟨_,X,_⟩:=X;X.ob.obj
theorem ExcSt.caught {e:Addr} {cl:String} {fl:Value} {h:Heap} (X:ExcSt c R H e cl fl h):St c R (up H e (.exc cl)) h:=let ⟨_,X,r⟩:=X;⟨_,X.caught,r.put rfl (.inl X.he)⟩
end
inductive TFn (c:Cx) (env:Env) (sc:Scope) (nm:List Str) (R:RR) (s₀:Shared) (QN:VV→Zaa→Prop) (s':Shared):Prop
 | mk (R':RR) (V':VV) (H':Zaa) (r:RStep env R R') (f:Frm R' env sc nm V') (S:St c R' H' s'.heap) (m:Sm s₀ s') (q:QN V' H'):TFn c env sc nm R s₀ QN s'
inductive TFr (c:Cx) (env:Env) (R:RR) (s₀:Shared) (QR:AV→Zaa→Prop) (v:Value) (s':Shared):Prop
 | mk (R':RR) (av:AV) (H':Zaa) (r:RStep env R R') (hv:VR av v) (S:St c R' H' s'.heap) (m:Sm s₀ s') (q:QR av H'):TFr c env R s₀ QR v s'
inductive TXi (c:Cx) (env:Env) (sc:Scope) (nm:List Str) (R:RR) (s₀:Shared) (E:String→VV→Zaa→Prop) (e:Value) (s':Shared):Prop
 | mk (a:Addr) (cl:String) (R':RR) (V':VV) (H':Zaa) (fl:Value) (h:e = .ref a) (r:RStep env R R') (f:Frm R' env sc nm V') (k:FlOk env fl) (X:ExcSt c R' H' a cl fl s'.heap) (m:Sm s₀ s') (q:E cl V' H'):TXi c env sc nm R s₀ E e s'
noncomputable def TF (g:Gx) (env:Env) (sc:Scope) (nm:List Str) (R:RR) (s₀:Shared) (QN:VV→Zaa→Prop) (QR:AV→Zaa→Prop) (f:Flow) (s':Shared):Prop :=
 match f with
 | .next=>TFn g.c env sc nm R s₀ QN s'
 | .ret v=>TFr g.c env R s₀ QR v s'
 | _=>False
noncomputable def TX (g:Gx) (env:Env) (sc:Scope) (nm:List Str) (R:RR) (s₀:Shared) (E:String→VV→Zaa→Prop) (e:Value) (s':Shared):Prop :=
 TXi g.c env sc nm R s₀ E e s'
noncomputable def SOk (g:Gx) (sc:Scope) (nm:List Str) (w:Gx→(VV→Zaa→Prop)→(AV→Zaa→Prop)→(String→VV→Zaa→Prop)→VV→Zaa→Prop) (t:Env→Sem Flow):Prop :=
 ∀ (md:Bool) (A:Around) (env:Env) (l₀:List Env) (R:RR) (V:VV) (s₀ s:Shared) (H:Zaa) (QN:VV→Zaa→Prop) (QR:AV→Zaa→Prop) (E:String→VV→Zaa→Prop),
  Ev { g with md:=md } A R env l₀→Frm R env sc nm V→St g.c R H s.heap→Sm s₀ s→w { g with md:=md } QN QR E V H →
  wpAny (model g.c.prog g.c.w) A (t env) (TF g env sc nm R s₀ QN QR) (TX g env sc nm R s₀ E) s
end Mine
end
section
namespace Mine
section
variable {c:Cx} {R:RR} {H:Zaa} {A:Around} {E:Value→Shared→Prop} {s:Shared}
theorem Zld {R:RR} {a:Addr} {r r':Res}:rup (rup R a r) a r'=rup R a r':=by
 funext b
 by_cases q:b=a
 ·subst q;exact rl Zak (rl Zak rfl)
 ·exact rl (Zaf q) (rl (Zaf q) (rl (Zaf q) rfl))
theorem Zo7 {R:RR} {a:Addr} {r:Res} (h:R a=none):Zcj (rup R a r) a=R:=by
 funext b
 by_cases q:b=a
 ·subst q;exact rl Zb7 (rl h rfl)
 ·exact rl (Za3 q) (rl (Zaf q) rfl)
theorem Zq1 {p a:Addr} {xs:List AV} (hx:Zap H (.ref p)=some xs):∀ (n k:Nat) (s:Shared) (o:Obj) (Q:List Value→Shared→Prop),k+n≤xs.length→ItObj H (.ref p) k o→St c (rup R a (.obj o)) H s.heap →
  (∀ s' o' vs,ItObj H (.ref p) (k+n) o'→VRs ((xs.drop k).take n) vs→St c (rup R a (.obj o')) H s'.heap→Sm s s'→Q vs s')→wpAny (model c.prog c.w) A (draw (.ref a) n) Q E s
 | 0,k,s,o,Q,_,hi,S,q=>wpAny_pure (q s o [] hi (by refine rl List.take_zero ?_;exact .nil) S ⟨_,_,rfl⟩)
 | n+1,k,s,o,Q,hk,hi,S,q=>by
  have hlt:k<xs.length:=by omega
  show wpAny _ _ (pyNext (.ref a) >>= _) Q E s
  refine wpAny_bind (Zlw (x:=xs[k]) hx (by simp [hlt]) hi Zak S (fun y z=>by contradiction) fun s₁ u o₁ hu ho₁ S₁ m₁=>?_)
  rw [Zld] at S₁
  refine wpAny_bind (wpAny_holding (Zq1 hx n (k+1) s₁ o₁ _ (by omega) ho₁ S₁ fun s₂ o₂ vs ho2 hv S₂ m₂=>wpAny_pure ?_))
  refine q s₂ o₂ (u::vs) (by refine rl (show k+(n+1)=k+1+n by omega) ?_;exact ho2) ?_ S₂ (m₁.trans m₂)
  refine rl (List.drop_eq_getElem_cons hlt) (rl List.take_succ_cons ?_)
  exact .cons hu hv
theorem Zjv {mg mb:Str→Option Value} {p L:Addr} {mL:Str→Option Value} {xs:List AV} {Q:List Value→Shared→Prop} (C:c.Ok mg mb) (hh:A.handled=none) (hL:R L=some (.ns mL)) (S:St c R H s.heap) (hx:H p=some (.tuple xs)∨H p=some (.list xs))
  (q:∀ s' vs,VRs xs vs→St c R H s'.heap→Sm s s'→Q vs s'):wpAny (model c.prog c.w) A (unpackItems (.ref p) xs.length none) Q E s:=by
 have hit:Zap H (.ref p)=some xs:=by rcases hx with e | e<;>simp [Zap,e]
 unfold unpackItems
 refine wpAny_bind ?_
 have hno:wpAny (model c.prog c.w) A (notIterableAtAll (.ref p)) (fun b s'=>b=false∧s'=s) E s:=by
  unfold notIterableAtAll
  rcases hx with e | e
  ·obtain ⟨vs,n,k1,k2,k3⟩:=Zc0 (g:=⟨c,0,true⟩) S e
   refine wpAny_bind (wpAny_specialOf ⟨_,k1,rfl⟩ PySem.F.slot_tuple_iter.lookup (wpAny_pure ⟨rfl,rfl⟩))
  ·obtain ⟨vs,n,k1,k2,k3⟩:=Zbc (g:=⟨c,0,true⟩) S e
   refine wpAny_bind (wpAny_specialOf ⟨_,k1,rfl⟩ PySem.slot_list_iter.lookup (wpAny_pure ⟨rfl,rfl⟩))
 refine wpAny_mono hno (fun b s' z=>?_) fun _ _ z=>z
 obtain ⟨rfl,rfl⟩:=z
 dsimp only [Bool.false_eq_true,if_false]
 refine wpAny_bind (wpAny_holding (Zp9 C (.ref p) S hit fun s₁ a o ha hHa ho S₁ m₁=>?_))
 refine wpAny_bind (wpAny_holding (Zq1 hit xs.length 0 s₁ o _ (by omega) ho S₁ fun s₂ o₂ vs ho2 hv S₂ m₂=>?_))
 rw [List.drop_zero,List.take_length] at hv
 refine rl (if_neg (by rw [← hv.length];exact Nat.lt_irrefl _)) ?_
 have hLa:L≠a:=fun z=>by rw [z,ha] at hL;contradiction
 refine wpAny_bind (wpAny_holding (Zqb hh hit (by simp) ho2 Zak (by refine rl (Zaf hLa) ?_;exact hL) S₂ fun s₃ S₃ m₃=>?_))
 rw [Zo7 ha] at S₃
 dsimp only [Option.isSome_none,Bool.false_eq_true,if_false]
 exact wpAny_pure (q s₃ vs hv S₃ ((m₁.trans m₂).trans m₃))
noncomputable def TgK (e:Expr):Prop:=(∃ id p,e = .Name id p)∨∃ es k p,e = .Tuple es k p
theorem Zmk {v:AV} {k:Nat} {a:Addr} {o:Obj} {tg:Expr} {u:Value} {Q:Unit→Shared→Prop} (tk:TgK tg) (hi:ItObj H v k o) (ho:s.heap.get? a=some o) (q:Q () s):wpAny (model c.prog c.w) A (letOwnedTupleGo tg (.ref a) u) Q E s:=by
 have key:∀ n vs,o.cls = .type n→o.data = .fields vs→["enumerate","zip","dict_itemiterator","dict_reverseitemiterator","odict_iterator","itertools.zip_longest","itertools.pairwise"].contains n=false →
   wpAny (model c.prog c.w) A (letOwnedTupleGo tg (.ref a) u) Q E s:=by
  intro n vs h1 h2 h3
  rcases tk with ⟨id,p,rfl⟩ | ⟨es,kk,p,rfl⟩
  ·exact wpAny_pure q
  ·cases u with
   | ref T =>
    unfold letOwnedTupleGo
    refine wpAny_bind (wpAny_load ho ?_)
    refine rl h1 (rl h2 ?_)
    show wpAny _ A (if (["enumerate","zip","dict_itemiterator","dict_reverseitemiterator","odict_iterator","itertools.zip_longest","itertools.pairwise"].contains n&&vs[0]?==some (rawInt T))=true then _ else _) Q E s
    refine rl (h3 ..) (rl (Bool.false_and ..) (rl (if_neg Bool.false_ne_true ..) ?_))
    exact wpAny_pure q
   | _=>exact wpAny_pure q
 cases v with
 | ref p =>
  simp only [ItObj] at hi
  split at hi
  ·exact key _ _ hi.1 hi.2 (by decide)
  ·exact key _ _ hi.1 hi.2 (by decide)
  ·subst hi;exact key _ _ rfl rfl (by decide)
  ·exact key _ _ hi.1 hi.2 (by decide)
  ·exact hi.elim
 | str y =>
  obtain ⟨t,hc,hd⟩:=hi
  rcases hc with hc | hc
  ·exact key _ _ hc hd (by decide)
  ·exact key _ _ hc hd (by decide)
 | none=>exact hi.elim
 | bool b=>exact hi.elim
 | int i=>exact hi.elim
end
theorem Zih {e:Expr} {r:List Expr} {ts:List Str} (h:Zda (e::r) ts=true):∃ id p ts',e = .Name id p∧ts=id::ts'∧Zda r ts'=true :=
 Zdk (m:=fun ts=>∃ id p ts',e = .Name id p∧ts=id::ts'∧Zda r ts'=true) h fun t q h =>
  Zb8 (m:=fun e=>∃ id p ts',e = .Name id p∧t::q=id::ts'∧Zda r ts'=true) (and2 h).1 fun id p h1=>⟨id,p,q,rfl,by exact rl (eq_of_beq h1) rfl,(and2 h).2⟩
theorem Zgq {env:Env} {es:List Expr}:∀ {ts:List Str},Zda es ts=true→(assignEach es env).length=ts.length∧(assignEach es env).findIdx? (·.1)=none:=by
 induction es with
 | nil=>intro ts h;exact Zb4 (m:=fun ts=>_=ts.length∧_) h ⟨rfl,rfl⟩
 | cons e r ih =>
  intro ts h
  obtain ⟨id,p,ts',rfl,rfl,h1⟩:=Zih h
  obtain ⟨i1,i2⟩:=ih h1
  exact ⟨congrArg Nat.succ i1,by show List.findIdx? _ ((false,_)::assignEach r env)=none;refine rl (List.findIdx?_cons) (rl i2 ?_);rfl⟩
end Mine
end
section
namespace Mine
noncomputable def Zdb (env:Env):List (Str×NameKind)→List (Str×Addr)→List (Str×Addr)
 | [],acc=>acc
 | (n,k)::r,acc=>if k==.free then Zdb env r ((n,(env.cells.lookup n).getD 0)::acc) else Zdb env r acc
theorem Zwh {env:Env} (f:Str×NameKind→List (Str×Addr)→Sem (ForInStep (List (Str×Addr)))) (hf:∀ n k cs,f (n,k) cs=if k==.free then (do let a ← cellOf env n;pure (.yield ((n,a)::cs))) else pure (.yield cs))
  (names:List (Str×NameKind)) (acc:List (Str×Addr)) (h:∀ p∈names,p.2 = .free→∃ a,env.cells.lookup p.1=some a):forIn names acc f=(pure (Zdb env names acc):Sem _):=by
 induction names generalizing acc with
 | nil=>refine rl List.forIn_nil ?_;rfl
 | cons nk r ih =>
  obtain ⟨n,k⟩:=nk
  refine rl (List.forIn_cons ..) (rl (hf ..) ?_)
  unfold Zdb
  cases hk:k==NameKind.free with
  | true =>
   obtain ⟨a,ha⟩:=h (n,k) (.head _) (by simpa using hk)
   simp only [if_true,cellOf,ha,Option.getD_some]
   exact ih _ fun p hp=>h p (.tail _ hp)
  | false =>
   simp only [Bool.false_eq_true,if_false]
   exact ih _ fun p hp=>h p (.tail _ hp)
theorem Zjo {env:Env} {sc:Scope} (h:∀ p∈sc.names,p.2 = .free→∃ a,env.cells.lookup p.1=some a):closureFor sc env=pure (Zdb env sc.names []):=by
 unfold closureFor
 dsimp only
 refine rl (Zwh (env:=env) _ (fun n k cs=>by cases hk:k==NameKind.free<;>simp only [hk]) sc.names [] h) ?_
 rfl
set_option tactic.hygienic true in
theorem Zra {env:Env} {names:List (Str×NameKind)} {acc:List (Str×Addr)} {n:Str} {a:Addr} (h:(n,a)∈Zdb env names acc):(n,a)∈acc∨((n,NameKind.free)∈names∧a=(env.cells.lookup n).getD 0):=by
 induction names generalizing acc with
 | nil=>exact .inl h
 | cons nk r ih =>
  obtain ⟨n',k⟩:=nk
  unfold Zdb at h
  split at h
  ·rename_i hk
   rcases ih h with h | ⟨h1,h2⟩
   ·rcases List.mem_cons.mp h with h | h
    ·cases h
     exact .inr ⟨by refine rl (Eq.symm (by simpa using hk:k = .free)) ?_;exact .head _,rfl⟩
    ·exact .inl h
   ·exact .inr ⟨.tail _ h1,h2⟩
  ·rcases ih h with h | ⟨h1,h2⟩
   ·exact .inl h
   ·exact .inr ⟨.tail _ h1,h2⟩
theorem Zrc {env:Env} {names:List (Str×NameKind)} {acc:List (Str×Addr)} {p:Str×Addr} (h:p∈acc):p∈Zdb env names acc:=by
 induction names generalizing acc with
 | nil=>exact h
 | cons nk r ih =>
  unfold Zdb
  split
  ·exact ih (.tail _ h)
  ·exact ih h
theorem Zrb {env:Env} {names:List (Str×NameKind)} {acc:List (Str×Addr)} {n:Str} (h:(n,NameKind.free)∈names):(n,(env.cells.lookup n).getD 0)∈Zdb env names acc:=by
 induction names generalizing acc with
 | nil=>cases h
 | cons nk r ih =>
  unfold Zdb
  rcases List.mem_cons.mp h with h | h
  ·cases h;simp only [beq_self_eq_true,if_true];exact Zrc (.head _)
  ·split<;>exact ih h
theorem Zh1 {env:Env} {names:List (Str×NameKind)} {x:Str} :
  (names.map fun (n,k)=>if (k==NameKind.free&&env.scope.kind==.function&&env.kindOf n==some .cell) then (n,NameKind.cell) else (n,k)).lookup x =
   (names.lookup x).map fun k=>if (k==NameKind.free&&env.scope.kind==.function&&env.kindOf x==some .cell) then NameKind.cell else k:=by
 induction names with
 | nil=>rfl
 | cons nk r ih =>
  obtain ⟨n,k⟩:=nk
  show List.lookup x ((if (k==NameKind.free&&env.scope.kind==.function&&env.kindOf n==some .cell)=true then (n,NameKind.cell) else (n,k))::_)=_
  cases hx:x==n with
  | true =>
   have:x=n:=by simpa using hx
   subst this
   split<;>simp_all [List.lookup_cons]
  | false =>
   split<;>simp only [List.lookup_cons,hx]<;>exact ih
theorem Zdl {l:List (Str×NameKind)} {n:Str} {k:NameKind} (h:l.lookup n=some k):(n,k)∈l:=mem_of_lookup h
set_option tactic.hygienic true in
theorem Zkl {nm ts:List Str} {i:Nat} {n:Str} (h:(Zdw nm ts)[i]? = some n) (hn:n.length≠0):nm[i]? = some n∧n ∉ ts:=by
 unfold Zdw at h
 rw [List.getElem?_map,Option.map_eq_some_iff] at h
 obtain ⟨y,h1,h2⟩:=h
 split at h2
 ·subst h2;exact absurd rfl hn
 ·rename_i hc;subst h2;exact ⟨h1,by simpa using hc⟩
structure Z0w (sc csc:Scope) (nm ts:List Str):Prop where
 kind:csc.kind = .function
 loc:∀ t∈ts,csc.names.lookup t=some .local
 nd:ts.Nodup
 dot:Str.ofString ".0" ∉ nm
 cell:∀ p∈csc.names,p.2≠.cell
 lcl:∀ p∈csc.names,p.2 = .local→csc.names.lookup p.1=some .local∧(p.1∈ts∨p.1=Str.ofString ".0")
 free:∀ p∈csc.names,p.2 = .free→(sc.names.lookup p.1=some .cell∧p.1∈nm)∧csc.names.lookup p.1=some .free
 len:∀ p∈csc.names,p.1.length≠0
theorem Zxk {a:NameKind} {b:NameKind} {c:Bool} (h:(a != b||c)=true) (e:a=b):c=true:=by
 rw [e,show (b != b)=false from bne_self_eq_false' ..] at h;exact h
theorem Ze2 {sc csc:Scope} {nm ts:List Str} (h:Zcp sc csc nm ts=true):Z0w sc csc nm ts:=by
 unfold Zcp at h
 have h5:=List.all_eq_true.mp (and2 h).2
 have h4:=and2 (and2 h).1
 have h3:=and2 h4.1
 have h2:=and2 h3.1
 have h1:=List.all_eq_true.mp h2.2
 refine ⟨eq_of_beq h2.1,fun t ht=>eq_of_beq (and2 (and2 (h1 t ht)).1).1,of_decide_eq_true h3.2,fun z=>?_,fun p hp z=>?_,fun p hp z=>?_,fun p hp z=>?_,fun p hp z=>?_⟩
 ·have:=h4.2
  rw [List.contains_iff_mem.mpr z] at this
  contradiction
 ·have:=(and2 (and2 (and2 (h5 p hp)).1).1).1
  rw [z] at this
  contradiction
 ·have:=and2 (Zxk (and2 (and2 (and2 (h5 p hp)).1).1).2 z)
  exact ⟨eq_of_beq this.1,((Bool.or_eq_true ..).mp this.2).imp List.contains_iff_mem.mp eq_of_beq⟩
 ·have:=and2 (Zxk (and2 (and2 (h5 p hp)).1).2 z)
  have t:=and2 this.1
  exact ⟨⟨eq_of_beq t.1,List.contains_iff_mem.mp t.2⟩,eq_of_beq this.2⟩
 ·have:=(and2 (h5 p hp)).2
  rw [z] at this
  contradiction
set_option tactic.hygienic true in
theorem Frm.inner {R R':RR} {env:Env} {sc csc:Scope} {nm ts:List Str} {V:VV} {xv:List AV} {C:Addr} {m:Str→Option Value} (fr:Frm R env sc nm V) (hm:Zcp sc csc nm ts=true) (hC:R' C=some (.ns m)) (hk:∀ b r,R b=some r→R' b=some r)
  (hl:xv.length=ts.length) (hts:∀ (j:Nat) t,ts[j]? = some t→∃ a u,xv[j]? = some a∧m t=some u∧VR a u):Frm R' (compEnvC csc (Zdb env csc.names []) C env) csc (Zdw nm ts++ts) (V++xv.map some):=by
 have F:=Ze2 hm
 clear hm
 have hkd:∀ n,(compEnvC csc (Zdb env csc.names []) C env).kindOf n=(csc.names.lookup n).map fun k=>if (k==NameKind.free&&env.scope.kind==.function&&env.kindOf n==some .cell) then NameKind.cell else k:=fun n=>Zh1
 have hfree:∀ n,csc.names.lookup n=some .free→env.kindOf n=some .cell∧∃ i,nm[i]? = some n:=fun n hn=>by
  have f:=F.free (n,.free) (Zdl hn) rfl
  exact ⟨fr.cco n f.1.1,List.mem_iff_getElem?.mp f.1.2⟩
 have hnc:∀ n,csc.names.lookup n≠some .cell:=fun n hn=>F.cell (n,.cell) (Zdl hn) rfl
 have hlocal:∀ n,csc.names.lookup n=some .local→n∈ts∨n=Str.ofString ".0":=fun n hn=>(F.lcl (n,.local) (Zdl hn) rfl).2
 have hlen:∀ n k,csc.names.lookup n=some k→n.length≠0:=fun n k hn=>F.len (n,k) (Zdl hn)
 have hclook:∀ n a,(Zdb env csc.names []).lookup n=some a→a=(env.cells.lookup n).getD 0∧(n,NameKind.free)∈csc.names:=fun n a h=>by
  rcases Zra (mem_of_lookup h) with h | ⟨h1,h2⟩
  ·contradiction
  ·exact ⟨h2,h1⟩
 have hcell:∀ n,csc.names.lookup n=some .free→∃ a,env.cells.lookup n=some a∧(Zdb env csc.names []).lookup n=some a:=fun n hn=>by
  obtain ⟨k1,i,hi⟩:=hfree n hn
  obtain ⟨a,x,v,c1,_⟩:=fr.cell i n hi (.inl k1)
  have hmem:=Zrb (env:=env) (acc:=[]) (Zdl hn)
  have hs:((Zdb env csc.names []).lookup n).isSome=true:=by
   cases q:(Zdb env csc.names []).lookup n with
   | some=>rfl
   | none=>have:=List.lookup_eq_none_iff.mp q _ hmem;simp at this
  obtain ⟨b,hb⟩:=Option.isSome_iff_exists.mp hs
  obtain ⟨e1,_⟩:=hclook n b hb
  rw [c1] at e1
  exact ⟨a,c1,by refine rl hb (rl e1 ?_);rfl⟩
 refine ⟨F.kind,fr.glob,fr.blt,fun id h=>?_,fun id h=>?_,fun id h=>?_,fun id h=>?_,fun id h=>absurd h (hnc id),?_,fun n n' a e e'=>?_,⟨m,hC,fun i n hi hk'=>?_⟩,fun i n hi hk'=>?_⟩
 ·refine rl (hkd ..) ?_;unfold Zqe at h;refine rl (beq_iff_eq.mp h ..) ?_;rfl
 ·refine rl (hkd ..) ?_
  rcases Zkj h with z | z | z
  ·refine rl z ?_;exact .inl rfl
  ·exact absurd z (hnc id)
  ·refine rl z ?_
   show some (if _ then _ else _)=_∨some (if _ then _ else _)=_∨some (if _ then _ else _)=_
   split
   ·exact .inr (.inl rfl)
   ·exact .inr (.inr rfl)
 ·refine rl (hkd ..) ?_
  rcases Zii h with z | z
  ·refine rl z ?_;exact .inl rfl
  ·exact absurd z (hnc id)
 ·refine rl (hkd ..) (rl (h ..) ?_);rfl
 ·simp only [List.length_append,List.length_map,Zdw,fr.len,hl]
 ·obtain ⟨e1,f1⟩:=hclook n a e
  obtain ⟨e2,f2⟩:=hclook n' a e'
  have g1:=(F.free _ f1 rfl).2
  have g2:=(F.free _ f2 rfl).2
  obtain ⟨a1,c1,_⟩:=hcell n g1
  obtain ⟨a2,c2,_⟩:=hcell n' g2
  rw [c1] at e1;rw [c2] at e2
  simp only [Option.getD_some] at e1 e2
  exact fr.inj n n' a (by exact rl c1 (rl e1 rfl)) (by exact rl c2 (rl e2 rfl))
 ·have hloc:csc.names.lookup n=some .local:=by
   rw [hkd] at hk'
   cases q:csc.names.lookup n with
   | none=>rw [q] at hk';cases hk'
   | some k =>
    rw [q] at hk'
    simp only [Option.map_some,Option.some.injEq] at hk'
    split at hk'
    ·contradiction
    ·exact rl hk' rfl
  rcases Nat.lt_or_ge i (Zdw nm ts).length with hlt | hge
  ·rw [List.getElem?_append_left hlt] at hi
   obtain ⟨e1,e2⟩:=Zkl hi (hlen n _ hloc)
   rcases hlocal n hloc with z | z
   ·exact absurd z e2
   ·exfalso
    exact F.dot (z▸List.mem_of_getElem? e1)
  ·rw [List.getElem?_append_right hge] at hi
   obtain ⟨a,u,a1,a2,a3⟩:=hts _ n hi
   refine ⟨some a,?_,by refine rl a2 ?_;exact .some a3⟩
   have hL:(Zdw nm ts).length=V.length:=by simp [Zdw,fr.len]
   rw [hL] at hge a1
   refine rl (List.getElem?_append_right hge) (rl (List.getElem?_map) (rl a1 ?_));rfl
 ·have hfr:csc.names.lookup n=some .free:=by
   rw [hkd] at hk'
   cases q:csc.names.lookup n with
   | none=>rw [q] at hk';rcases hk' with hk' | hk'<;>cases hk'
   | some k =>
    rw [q] at hk'
    simp only [Option.map_some,Option.some.injEq] at hk'
    split at hk'
    ·rename_i z;simp only [Bool.and_eq_true,beq_iff_eq] at z;exact rl z.1.1 rfl
    ·rcases hk' with hk' | hk'
     ·exact absurd (q.trans (by exact rl hk' rfl)) (hnc n)
     ·exact rl hk' rfl
  rcases Nat.lt_or_ge i (Zdw nm ts).length with hlt | hge
  ·rw [List.getElem?_append_left hlt] at hi
   obtain ⟨e1,e2⟩:=Zkl hi (hlen n _ hfr)
   obtain ⟨k1,_⟩:=hfree n hfr
   obtain ⟨a,x,v,c1,c2,c3,c4⟩:=fr.cell i n e1 (.inl k1)
   obtain ⟨a',d1,d2⟩:=hcell n hfr
   rw [c1] at d1;obtain rfl:=Option.some.inj d1
   have hlt':i<V.length:=(List.getElem?_eq_some_iff.mp c3).1
   exact ⟨a,x,v,d2,hk _ _ c2,by refine rl (List.getElem?_append_left hlt') ?_;exact c3,c4⟩
  ·rw [List.getElem?_append_right hge] at hi
   have:=F.loc n (List.mem_of_getElem? hi)
   rw [hfr] at this;contradiction
end Mine
end
section
namespace Mine
section
variable {c:Cx} {R:RR} {H:Zaa} {A:Around} {E:Value→Shared→Prop} {s:Shared}
theorem Zvz {v:AV} {k:Nat} {a:Addr} {o:Obj} {Q:Value→Shared→Prop} (hi:ItObj H v k o) (ho:s.heap.get? a=some o) (q:Q (.ref a) s):wpAny (model c.prog c.w) A (pyIter (.ref a)) Q E s:=by
 cases v with
 | ref p =>
  simp only [ItObj] at hi
  split at hi
  ·exact wpAny_pyIter_listiter ⟨o,ho,hi.1,hi.2⟩ q
  ·exact wpAny_pyIter_tupleiter ⟨o,ho,hi.1,hi.2⟩ q
  ·subst hi;exact wpAny_pyIter_rangeiter ho q
  ·exact wpAny_pyIter_keyiter ⟨o,ho,hi.1,hi.2⟩ q
  ·exact hi.elim
 | str y =>
  obtain ⟨t,hc,hd⟩:=hi
  rcases hc with hc | hc
  ·exact wpAny_pyIter_striter_ascii ⟨o,ho,hc,hd⟩ q
  ·exact wpAny_pyIter_striter_wide ⟨o,ho,hc,hd⟩ q
 | none=>exact hi.elim
 | bool b=>exact hi.elim
 | int i=>exact hi.elim
theorem St1.give {h h':Heap} {x:Addr} {r₀:Res} {ao:AObj} (S:St1 c R H h) (hx:R x=some r₀) (hs:Heap.SameBut x h h') (hni:∀ cl es,ao≠.inst cl es) (ho:∀ D,ORep c h' D x ao):H x=none∧St1 c (Zcj R x) (up H x ao) h':=by
 have bx:c.base.objs.size≤x:=(S.res x _ hx).1
 obtain ⟨s1,s2,s3,D,s4⟩:=S.dropAny hx hs.extBut (by refine rl hs.1 ?_;exact S.size)
 obtain ⟨D₀,s40⟩:=S.rep
 have hHx:H x=none:=by
  cases q:H x with
  | none=>rfl
  | some o=>have:=(s40.above x o q).2;rw [hx] at this;contradiction
 have hD:∀ a cl es,H a=some (.inst cl es)→D a≠x:=fun a cl es e z=>by
  have hax:a≠x:=fun w=>by rw [w,hHx] at e;contradiction
  obtain ⟨e1,ents,n,e2,_⟩:=s4.rep a _ e
  obtain ⟨p1,ents',n',p2,_⟩:=s40.rep a _ e
  rw [hs.2 a hax] at e1
  rw [p1] at e1
  have hd:D₀ a=D a:=by injection e1 with e1;injection e1 with _ z;exact Option.some.inj z
  have:=(s40.dict a cl es e).2.1
  rw [hd,z,hx] at this;contradiction
 refine ⟨hHx,s1,s2,s3,D,⟨fun a o e=>?_,fun a o e=>?_,fun a cl es e=>?_,fun a b cl es cl' es' e e'=>?_⟩⟩
 ·by_cases q:a=x
  ·subst q;rw [Zac] at e;obtain rfl:=Option.some.inj e;exact ho D
  ·rw [Zab q] at e;exact s4.rep a o e
 ·by_cases q:a=x
  ·subst q;exact ⟨abv bx,Zb7⟩
  ·rw [Zab q] at e;exact s4.above a o e
 ·by_cases q:a=x
  ·subst q;rw [Zac] at e;obtain rfl:=Option.some.inj e;exact absurd rfl (hni cl es)
  ·rw [Zab q] at e
   obtain ⟨y1,y2,y3⟩:=s4.dict a cl es e
   exact ⟨y1,y2,by refine rl (Zab (hD a cl es e)) ?_;exact y3⟩
 ·by_cases q:a=x
  ·subst q;rw [Zac] at e;obtain rfl:=Option.some.inj e;exact absurd rfl (hni cl es)
  ·by_cases q':b=x
   ·subst q';rw [Zac] at e';obtain rfl:=Option.some.inj e';exact absurd rfl (hni cl' es')
   ·rw [Zab q] at e;rw [Zab q'] at e';exact s4.inj a b cl es cl' es' e e'
end
theorem St.give {h h':Heap} {x:Addr} {r₀:Res} {ao:AObj} (S:St c R H h) (hx:R x=some r₀) (hs:Heap.SameBut x h h') (hni:∀ cl es,ao≠.inst cl es) (ho:∀ D,ORep c h' D x ao) (hb:ao.isB=false:=by rfl):H x=none∧St c (Zcj R x) (up H x ao) h':=by
 obtain ⟨H₁,s,r⟩:=S
 obtain ⟨e,s'⟩:=s.give hx hs hni ho
 exact ⟨r.none e,_,s',r.put hb (.inl e)⟩
noncomputable def XOk (g:Gx) (sc:Scope) (nm:List Str) (x:X) (e:Expr):Prop :=
 ∀ (A:Around) (R:RR) (V:VV) (env:Env) (e₀:Env) (l₀:List Env) (s₀:Shared),Ev g A R e₀ l₀→Frm R env sc nm V→HX g A R V s₀ x (eval e env)∧HT g A R V s₀ x (isTrue e env (eval e env))
noncomputable def RC (R:RR) (a D C:Addr) (o l:Obj) (m:Str→Option Value):RR:=rup (rup (rup R a (.obj o)) D (.obj l)) C (.ns m)
theorem Zma {g:Gx} {R:RR} {s₀:Shared} {e:Value} {s':Shared} {P:Prop} (h:TE g R s₀ (fun _ _=>False) e s'):P:=by
 obtain ⟨_,_,_,_,_,_,h⟩:=h;exact h.elim
theorem Zt1 {R R':RR} {l:List Env} (h:Stk R l) (k:∀ b r,R b=some r→R' b=some r):Stk R' l:=fun e he=>by
 have F:=h e he
 obtain ⟨m,hm⟩:=F.ns
 exact ⟨F.kind,F.frame,F.gen,F.co,F.blt,F.glob,m,k _ _ hm⟩
inductive Ze8 (g:Gx) (sc:Scope) (nm:List Str):Option X→List Expr→Prop
 | nil:Ze8 g sc nm none []
 | one {x e}:XOk g sc nm x e→Ze8 g sc nm (some x) [e]
section
variable {g:Gx} {A:Around} {R:RR} {V:VV} {s₀:Shared} {env:Env} {mg mb:Str→Option Value} {e₀:Env} {l₀:List Env} {sc csc:Scope} {nm:List Str}
theorem Zrw {c:Option X} {ifs:List Expr} {H:Zaa} {s:Shared} {Q:Bool→Zaa→Prop} {E:String→Zaa→Prop} (h:Ze8 g sc nm c ifs) (ev:Ev g A R e₀ l₀) (fr:Frm R env sc nm V) (S:St g.c R H s.heap) (m:Sm s₀ s)
  (q:wpC g c V Q E H):wpAny (model g.c.prog g.c.w) A (forIn ifs true fun c r=>if r=true then do let ok ← isTrue c env (eval c env);pure (ForInStep.yield ok) else pure (ForInStep.yield r)) (TB g R s₀ Q) (TE g R s₀ E) s:=by
 cases h with
 | nil=>exact wpAny_tests_nil ⟨H,S,m,q⟩
 | one hx =>
  rw [Zbs] at q
  refine wpAny_tests_one (wpAny_mono ((hx A R V env e₀ l₀ s₀ ev fr).2 H s (fun _ b H=>Q b H) E S m q) (fun b s' z=>?_) fun _ _ z=>z)
  obtain ⟨v,H',S',m',q',_⟩:=z
  exact ⟨H',S',m',q'⟩
set_option tactic.hygienic true in
theorem Zrn {c:Cx} {R:RR} {H:Zaa} {A:Around} {E:Value→Shared→Prop} {env:Env} {Q:Unit→Shared→Prop} (hp:(env.scope.kind==.class||(env.scope.kind==.module&&env.locals != env.globals))=false)
  {es:List Expr}:∀ {ts:List Str} {ys:List AV} {vs:List Value} {m:Str→Option Value} {s:Shared},Zda es ts=true→ts.Nodup→(∀ t∈ts,env.kindOf t=some .local)→VRs ys vs→ys.length=ts.length→St c (rup R env.locals (.ns m)) H s.heap →
  (∀ s' m',(∀ t,t ∉ ts→m' t=m t)→(∀ (j:Nat) t,ts[j]? = some t→∃ a v,ys[j]? = some a∧m' t=some v∧VR a v)→St c (rup R env.locals (.ns m')) H s'.heap→Sm s s'→Q () s')→wpAny (model c.prog c.w) A (assignInOrder ((assignEach es env).map (·.2)) vs) Q E s:=by
 induction es with
 | nil =>
  intro ts ys vs m s h _ _ hv hl S q
  obtain rfl:ts=[]:=List.isEmpty_iff.mp h
  cases hv with
  | nil=>exact wpAny_pure (q s m (fun _ _=>rfl) (fun j t h=>by simp at h) S ⟨_,_,rfl⟩)
  | cons=>cases hl
 | cons e r ih =>
  intro ts ys vs m s h nd hk hv hl S q
  obtain ⟨id,p,ts',rfl,rfl,h1⟩:=Zih h
  obtain ⟨nd1,nd2⟩:=List.nodup_cons.mp nd
  cases hv with
  | nil=>cases hl
  | cons hv1 hvr =>
  rename_i y v ys' vs'
  show wpAny _ A (do holding vs' (assign (.Name id p) env v);assignInOrder ((assignEach r env).map (·.2)) vs') Q E s
  refine wpAny_bind (wpAny_holding (wpAny_assign_Name (wpAny_storeName_local (hk id (.head _)) (S.res _ _ Zak).2 (fun h₃ hn3 hs₃=>?_) hp)))
  have S₃:=S.setRes (r':=.ns _) Zak hs₃ hn3
  rw [Zld] at S₃
  refine ih h1 nd2 (fun t ht=>hk t (.tail _ ht)) hvr (Nat.succ.inj hl) S₃ fun s' m' k1 k2 S' ms=>q s' m' (fun t ht=>?_) (fun j t hj=>?_) S' (Sm.trans ⟨_,_,rfl⟩ ms)
  ·simp only [List.mem_cons,not_or] at ht
   refine rl (k1 t ht.2) ?_;exact if_neg ht.1
  ·cases j with
   | zero =>
    obtain rfl:=Option.some.inj hj
    exact ⟨y,v,rfl,by refine rl (k1 id nd1) ?_;exact if_pos rfl,hv1⟩
   | succ j=>exact k2 j t hj
set_option tactic.hygienic true in
theorem Ztt {c:Cx} {R:RR} {H:Zaa} {A:Around} {E:Value→Shared→Prop} {env:Env} {Q:Unit→Shared→Prop} {mg mb:Str→Option Value} {tg:Expr} {tup:Bool} {ts:List Str} {y:AV} {u:Value} {P:List AV→Prop} {m:Str→Option Value} {s:Shared} (C:c.Ok mg mb) (hh:A.handled=none)
  (hp:(env.scope.kind==.class||(env.scope.kind==.module&&env.locals != env.globals))=false) (htg:TgN tg tup ts) (nd:ts.Nodup) (hk:∀ t∈ts,env.kindOf t=some .local) (hu:VR y u) (hw:if tup then Zb2 ts.length y H P else P [y])
  (S:St c (rup R env.locals (.ns m)) H s.heap)
  (q:∀ s' m' ys,P ys→ys.length=ts.length→(∀ (j:Nat) t,ts[j]? = some t→∃ a v,ys[j]? = some a∧m' t=some v∧VR a v)→St c (rup R env.locals (.ns m')) H s'.heap→Sm s s'→Q () s'):wpAny (model c.prog c.w) A (assign tg env u) Q E s:=by
 cases htg with
 | name =>
  refine wpAny_assign_Name (wpAny_storeName_local (hk _ (.head _)) (S.res _ _ Zak).2 (fun h₃ hn3 hs₃=>?_) hp)
  have S₃:=S.setRes (r':=.ns _) Zak hs₃ hn3
  rw [Zld] at S₃
  refine q _ _ [y] hw rfl (fun j t hj=>?_) S₃ ⟨_,_,rfl⟩
  cases j with
  | zero=>obtain rfl:=Option.some.inj hj;exact ⟨y,u,rfl,if_pos rfl,hu⟩
  | succ j=>simp at hj
 | tup h1 =>
  simp only [if_true] at hw
  have hx:∃ p xs,y = .ref p∧(H p=some (.tuple xs)∨H p=some (.list xs))∧xs.length=ts.length∧P xs:=by
   cases y with
   | ref p =>
    dsimp only [Zb2] at hw
    split at hw
    ·rename_i xs e;exact ⟨p,xs,rfl,.inl e,hw⟩
    ·rename_i xs e;exact ⟨p,xs,rfl,.inr e,hw⟩
    ·exact hw.elim
   | _=>exact hw.elim
  obtain ⟨p,xs,rfl,hx,hl,hP⟩:=hx
  cases hu
  obtain ⟨l1,l2⟩:=Zgq (env:=env) h1
  refine rl (assign_Tuple ..) ?_
  unfold unpack
  refine rl l1 (rl l2 (rl hl.symm ?_))
  refine wpAny_bind (wpAny_standAt (wpAny_bind (wpAny_holding (Zjv C hh Zak S hx fun s₁ vs hv S₁ m₁=>?_))))
  exact Zrn hp h1 nd hk hv hl S₁ fun s' m' _ k2 S' ms=>q s' m' xs hP hl k2 S' (m₁.trans ms)
theorem Zzh {tg:Expr} {tup:Bool} {ts:List Str} (h:TgN tg tup ts):TgK tg:=by
 cases h with
 | name=>exact .inl ⟨_,_,rfl⟩
 | tup=>exact .inr ⟨_,_,_,rfl⟩
theorem Zq8 {prog:Program} {w:World} {R:Result→Shared→Prop} {A:Around} {s:Shared} {elt target iter:Expr} {ifs:List Expr} {scope:Scope} {pos:Pos} {it acc:Value} {env:Env} (I:Nat→Shared→Prop)
  (turn:∀ n s,I n s→wpAny (model prog w) A (pyNext it) (fun r s₁=>match r with
   | none=>R (.ok .next) s₁
   | some v=>wpAny (model prog w) A (letOwnedTupleGo target it v) (fun _ s1'=>wpAny (model prog w) A (assign target env v) (fun _ s₂ =>
     wpAny (model prog w) A (forIn ifs true fun c r=>if r=true then do let ok ← isTrue c env (eval c env);pure (ForInStep.yield ok) else pure (ForInStep.yield r)) (fun ok s₃ =>
      if ok=true then wpAny (model prog w) A (eval elt env) (fun x s₄ =>
       wpAny (model prog w) A (call (.builtin "list.append") [acc,x]) (fun _ s5=>∃ m,m<n∧I m s5) (notedBy (model prog w) A env fun e s'=>R (.error e) s') s₄) (notedBy (model prog w) A env fun e s'=>R (.error e) s') s₃
      else ∃ m,m<n∧I m s₃) (notedBy (model prog w) A env fun e s'=>R (.error e) s') s₂) (notedBy (model prog w) A env fun e s'=>R (.error e) s') s1') (notedBy (model prog w) A env fun e s'=>R (.error e) s') s₁) (notedBy (model prog w) A env fun e s'=>R (.error e) s') s)
  (n:Nat) (h:I n s):codeAny (model prog w) A (.compLoop (.ListComp elt [⟨target,iter,ifs,0⟩] scope pos) 0 it acc env) R s:=by
 refine codeAny_loop rfl I (fun n s hI=>?_) n h
 show wpAny _ A ((compTurn (.ListComp elt [⟨target,iter,ifs,0⟩] scope pos) 0 it acc env).onRaise (fun x=>do noteFrame x env;theTreesLotGoes x)) _ _ s
 refine wpAny_noted ?_
 refine rl (compTurn_list ..) ?_
 refine wpAny_bind (wpAny_standAt (wpAny_bind (wpAny_mono (turn n s hI) (fun r s₁ h₁=>?_) fun _ _ h'=>h')))
 cases r with
 | none=>exact wpAny_pure h₁
 | some v =>
  refine wpAny_bind (wpAny_mono h₁ (fun _ s1' h1'=>?_) fun _ _ h'=>h')
  refine wpAny_bind (wpAny_mono h1' (fun _ s₂ h₂=>wpAny_bind (wpAny_mono h₂ (fun ok s₃ h₃=>?_) fun _ _ h'=>h')) fun _ _ h'=>h')
  cases ok with
  | false=>exact wpAny_pure ⟨rfl,h₃⟩
  | true =>
   exact wpAny_bind (wpAny_bind (wpAny_mono h₃ (fun x s₄ h₄=>wpAny_bind (wpAny_mono h₄ (fun _ s5 h₅=>wpAny_pure (wpAny_pure ⟨rfl,h₅⟩)) fun _ _ h'=>h')) fun _ _ h'=>h'))
inductive Zzb (c:Cx) (R:RR) (s₀:Shared) (a D C:Addr) (av:AV) (l:Nat) (I:Nat→List AV→Zaa→Prop) (n:Nat) (s:Shared):Prop
 | mk (k:Nat) (o':Obj) (m':Str→Option Value) (vs:List Value) (cnt:Nat) (acc:List AV) (H':Zaa) (hn:n=l - k) (hk:k≤l) (it:ItObj H' av k o') (hv:VRs acc vs) (ha:acc.length≤k) (S:St c (RC R a D C o' (listOf vs.toArray cnt) m') H' s.heap) (m:Sm s₀ s) (q:I k acc H'):Zzb c R s₀ a D C av l I n s
theorem Zil {H H':Zaa} {av:AV} {xs:List AV} (h:Zed H H' av) (e:Zap H av=some xs):Zap H' av=some xs:=by
 cases av with
 | ref a =>
  replace h:H' a=H a:=h
  unfold Zap at e ⊢
  dsimp only at e ⊢
  refine rl h ?_;exact e
 | _=>exact e
theorem ItObj.same2 {H H' H'':Zaa} {av:AV} {k:Nat} {o:Obj} (h:ItObj H' av k o) (h1:Zed H H' av) (h2:Zed H H'' av):ItObj H'' av k o:=by
 cases av with
 | ref a=>exact h.same (show H'' a=H' a from (show H'' a=H a from h2).trans (show H' a=H a from h1).symm)
 | _=>exact h
section
variable {a D C:Addr} (hDa:D≠a) (hCa:C≠a) (hCD:C≠D) {o o' l l':Obj} {m m':Str→Option Value}
theorem RC_C:RC R a D C o l m C=some (.ns m):=Zak
include hCD in
theorem RC_D:RC R a D C o l m D=some (.obj l):=by unfold RC;exact rl (Zaf (Ne.symm hCD)) (rl Zak rfl)
theorem RC_sC:rup (RC R a D C o l m) C (.ns m')=RC R a D C o l m':=by
 funext b
 unfold RC
 by_cases q:b=C
 ·subst q;exact rl Zak (rl Zak rfl)
 ·exact rl (Zaf q) (rl (Zaf q) (rl (Zaf q) rfl))
include hCD in
theorem Z0t:rup (RC R a D C o l m) D (.obj l')=RC R a D C o l' m:=by
 funext b
 unfold RC
 by_cases q:b=D
 ·subst q;exact rl Zak (rl (Zaf hCD.symm) (rl Zak rfl))
 ·refine rl (Zaf q) ?_
  by_cases q2:b=C
  ·subst q2;exact rl Zak (rl Zak rfl)
  ·exact rl (Zaf q2) (rl (Zaf q2) (rl (Zaf q) (rl (Zaf q) rfl)))
include hDa hCa
theorem RC_a:RC R a D C o l m a=some (.obj o):=by unfold RC;exact rl (Zaf (Ne.symm hCa)) (rl (Zaf (Ne.symm hDa)) (rl Zak rfl))
theorem Z0s:rup (RC R a D C o l m) a (.obj o')=RC R a D C o' l m:=by
 funext b
 by_cases q:b=a
 ·subst q;exact rl Zak (rl (RC_a hDa hCa) rfl)
 ·refine rl (Zaf q) ?_;unfold RC
  by_cases q2:b=C
  ·subst q2;exact rl Zak (rl Zak rfl)
  ·refine rl (Zaf q2) (rl (Zaf q2) ?_)
   by_cases q3:b=D
   ·subst q3;exact rl Zak (rl Zak rfl)
   ·exact rl (Zaf q3) (rl (Zaf q3) (rl (Zaf q) (rl (Zaf q) rfl)))
end
theorem Z0u {a D C:Addr} {o l:Obj} {m:Str→Option Value} (ha:R a=none) (hD:R D=none) (hC:R C=none):∀ b r,R b=some r→RC R a D C o l m b=some r:=fun b r e=>by
 have h:∀ {z},R z=none→b≠z:=fun hz q=>by rw [q,hz] at e;contradiction
 unfold RC;refine rl (Zaf (h hC)) (rl (Zaf (h hD)) (rl (Zaf (h ha)) ?_));exact e
noncomputable def Zwt (g:Gx) (c:Option X) (x:X) (V:VV) (I:Nat→List AV→Zaa→Prop) (k:Nat) (acc:List AV) (H':Zaa) (ys:List AV):Prop:=wpC g c (V++ys.map some) (fun b H=>if b then wpX g x (V++ys.map some) (fun y H=>I (k+1) (acc++(some y).toList) H) (fun _ _=>False) H else I (k+1) (acc++(none:Option AV).toList) H) (fun _ _=>False) H'
theorem Zq9 {x:X} {c:Option X} {elt iter tg:Expr} {ifs:List Expr} {tup:Bool} {ts:List Str} {pos:Pos} {a D C:Addr} {xs:List AV} {av:AV} {H₀:Zaa} {I:Nat→List AV→Zaa→Prop} {RR':Result→Shared→Prop} {s₁:Shared} {o:Obj} {m₁:Str→Option Value}
  (Ck:g.c.Ok mg mb) (htg:TgN tg tup ts) (hh:A.handled=none) (ev:Ev g A R e₀ l₀) (fr:Frm R env sc nm V) (hm:Zcp sc csc nm ts=true) (hx:XOk g csc (Zdw nm ts++ts) x elt) (hc:Ze8 g csc (Zdw nm ts++ts) c ifs)
  (ha:R a=none) (hD:R D=none) (hC:R C=none) (hDa:D≠a) (hCa:C≠a) (hCD:C≠D) (hsv:∀ y,av = .str y→PyData.strOk y=true)
  (hxs:Zap H₀ av=some xs) (hz:xs.length≤sizeLine)
  (step:∀ k acc H',I k acc H'→Zed H₀ H' av∧∀ y,xs[k]? = some y→if tup then Zb2 ts.length y H' (Zwt g c x V I k acc H') else Zwt g c x V I k acc H' [y])
  (h0:I 0 [] H₀) (ho:ItObj H₀ av 0 o) (S:St g.c (RC R a D C o (listOf #[] 0) m₁) H₀ s₁.heap) (ms:Sm s₀ s₁)
  (fin:∀ acc H' s' m',I xs.length acc H'→H' D=none→St g.c (rup R C (.ns m')) (up H' D (.list acc)) s'.heap→Sm s₀ s'→RR' (.ok .next) s') :
  codeAny (model g.c.prog g.c.w) A (.compLoop (.ListComp elt [⟨tg,iter,ifs,0⟩] csc pos) 0 (.ref a) (.ref D) (compEnvC csc (Zdb env csc.names []) C env)) RR' s₁:=by
 have F:=Ze2 hm
 have hRa:∀ o l m,RC R a D C o l m a=some (.obj o):=fun o l m=>RC_a hDa hCa
 have hRD:∀ o l m,RC R a D C o l m D=some (.obj l):=fun o l m=>RC_D hCD
 have hRC:∀ o l m,RC R a D C o l m C=some (.ns m):=fun o l m=>RC_C
 have hle:∀ o l m b r,R b=some r→RC R a D C o l m b=some r:=fun o l m=>Z0u ha hD hC
 refine Zq8 (Zzb g.c R s₀ a D C av xs.length I) ?_ xs.length
  ⟨0,o,m₁,[],0,[],H₀,rfl,Nat.zero_le _,ho,.nil,Nat.le_refl _,S,ms,h0⟩
 rintro n s ⟨k,o',m',vs,cnt,acc,H',rfl,hk,hio,hvs,hacc,S',ms',hI⟩
 obtain ⟨hsame,hstep⟩:=step k acc H' hI
 have hxs':=Zil hsame hxs
 cases hky:xs[k]? with
 | none =>
  have hkl:k=xs.length:=by have:=List.getElem?_eq_none_iff.mp hky;omega
  refine Zqb hh hxs' hky hio (hRa _ _ _) (hRC _ _ _) S' fun s₂ S₂ m₂=>?_
  have hD₂:Zcj (RC R a D C o' (listOf vs.toArray cnt) m') a D=some (.obj (listOf vs.toArray cnt)):=by refine rl (Za3 hDa) ?_;exact hRD _ _ _
  obtain ⟨hd,S₃⟩:=S₂.give (ao:=.list acc) hD₂ ⟨rfl,fun _ _=>rfl⟩ (by intro _ _ z;contradiction) fun _=>⟨vs,cnt,(S₂.res _ _ hD₂).2,hvs⟩
  subst hkl
  refine fin acc H' s₂ m' hI hd (S₃.weaken fun b r e=>?_) (ms'.trans m₂)
  by_cases q:b=C
  ·subst q;rw [Zak] at e;obtain rfl:=Option.some.inj e;refine rl (Za3 hCD) (rl (Za3 hCa) ?_);exact hRC _ _ _
  ·rw [Zaf q] at e
   have h1:b≠a:=fun z=>by rw [z,ha] at e;contradiction
   have h2:b≠D:=fun z=>by rw [z,hD] at e;contradiction
   refine rl (Za3 h2) (rl (Za3 h1) ?_);exact hle _ _ _ _ _ e
 | some y =>
  have hlt:k<xs.length:=(List.getElem?_eq_some_iff.mp hky).1
  refine Zlw hxs' hky hio (hRa _ _ _) S' hsv fun s₂ u o₂ hu ho2 S₂ m₂=>?_
  rw [Z0s hDa hCa] at S₂
  have hw:=hstep y hky
  refine Zmk (Zzh htg) ho2 ((S₂.res _ _ (hRa _ _ _)).2) ?_
  have hRR:RC R a D C o₂ (listOf vs.toArray cnt) m'=rup (RC R a D C o₂ (listOf vs.toArray cnt) m') (compEnvC csc (Zdb env csc.names []) C env).locals (.ns m'):=RC_sC.symm
  rw [hRR] at S₂
  refine Ztt (P:=Zwt g c x V I k acc H') Ck hh (by simp [compEnvC,relabel,F.kind]) htg F.nd (fun t ht=>lookup_relabel_local (F.loc t ht)) hu hw S₂ fun s₃ m₃ ys hw hyl hys S₃ ms3=>?_
  rw [show rup (RC R a D C o₂ (listOf vs.toArray cnt) m') (compEnvC csc (Zdb env csc.names []) C env).locals (.ns m₃)=RC R a D C o₂ (listOf vs.toArray cnt) m₃ from RC_sC] at S₃
  have ev':∀ o l m,Ev g A (RC R a D C o l m) e₀ l₀:=fun o l m=>⟨ev.aok,Zt1 ev.stk (hle o l m)⟩
  have fr':∀ o l,Frm (RC R a D C o l m₃) (compEnvC csc (Zdb env csc.names []) C env) csc (Zdw nm ts++ts) (V++ys.map some):=fun o l =>
   fr.inner (xv:=ys) hm (hRC _ _ _) (hle _ _ _) hyl hys
  refine wpAny_mono (Zrw hc (ev' _ _ _) (fr' _ _) S₃ ((ms'.trans m₂).trans ms3) hw) (fun ok s₄ z=>?_) fun _ _ z=>Zma z
  obtain ⟨H₄,S₄,m4,q₄⟩:=z
  cases ok with
  | false =>
   simp only [Bool.false_eq_true,if_false,Option.toList_none,List.append_nil] at q₄ ⊢
   have hs4:=(step _ _ _ q₄).1
   exact ⟨xs.length - (k+1),by omega,k+1,o₂,_,vs,cnt,acc,H₄,rfl,hlt,ho2.same2 hsame hs4,hvs,by omega,S₄,m4,q₄⟩
  | true =>
   simp only [if_true] at q₄ ⊢
   refine wpAny_mono ((hx A _ _ _ e₀ l₀ s₀ (ev' _ _ _) (fr' _ _)).1 H₄ s₄ _ _ S₄ m4 q₄) (fun w s5 z=>?_) fun _ _ z=>Zma z
   obtain ⟨bv,H₅,hw5,S₅,m5,q₅⟩:=z
   have hs5:=(step _ _ _ q₅).1
   have hsz:vs.length≤sizeLine:=by have:=hvs.length;omega
   refine append_at (S₅.res _ _ (hRD _ _ _)).2 (fun h₆ hs₆ ho6=>?_) (by simpa using hsz)
   have S₆:=S₅.setRes (r':=.obj (listOf (vs++[w]).toArray (cnt+1))) (hRD _ _ _) hs₆ (by show h₆.get? D=_;refine rl ho6 ?_;simp [W.listOf])
   rw [Z0t hCD] at S₆
   exact ⟨xs.length - (k+1),by omega,k+1,o₂,_,vs++[w],cnt+1,acc++[bv],H₅,rfl,hlt,ho2.same2 hsame hs5,hvs.append (.one hw5),by simp;omega,S₆,m5.heap _,q₅⟩
theorem Zkx {ts:List Str} (fr:Frm R env sc nm V) (hm:Zcp sc csc nm ts=true):closureFor csc env=pure (Zdb env csc.names []):=by
 refine Zjo fun p hp hk=>?_
 have z:=(Ze2 hm).free p hp hk
 obtain ⟨i,hi⟩:=List.mem_iff_getElem?.mp z.1.2
 obtain ⟨a,x,v,c1,_⟩:=fr.cell i p.1 hi (.inl (fr.cco _ z.1.1))
 exact ⟨a,c1⟩
theorem Zhw {ts:List Str} (hm:Zcp sc csc nm ts=true):csc.kind = .function∧(∀ y∈csc.names,y.2≠.cell)∧∀ y∈csc.names,y.2 = .local→csc.names.lookup y.1=some .local :=
 have F:=Ze2 hm
 ⟨F.kind,F.cell,fun y hy hk=>(F.lcl y hy hk).1⟩
set_option tactic.hygienic true in
theorem Zis {x:X} {c:Option X} {elt iter tg:Expr} {ifs:List Expr} {tup:Bool} {ts:List Str} {pos:Pos} {xs:List AV} {av:AV} {u:Value} {H₀:Zaa} {I:Nat→List AV→Zaa→Prop} {RR':Value→Addr→Result→Shared→Prop} {s₁:Shared} {E:Value→Shared→Prop}
  (Ck:g.c.Ok mg mb) (htg:TgN tg tup ts) (hh:A.handled=none) (ev:Ev g A R e₀ l₀) (fr:Frm R env sc nm V) (hm:Zcp sc csc nm ts=true) (hx:XOk g csc (Zdw nm ts++ts) x elt) (hc:Ze8 g csc (Zdw nm ts++ts) c ifs)
  (hv:VR av u) (S:St g.c R H₀ s₁.heap) (ms:Sm s₀ s₁) (hxs:Zap H₀ av=some xs) (hz:xs.length≤sizeLine) (h0:I 0 [] H₀)
  (step:∀ k acc H',I k acc H'→Zed H₀ H' av∧∀ y,xs[k]? = some y→if tup then Zb2 ts.length y H' (fun ys=>wpC g c (V++ys.map some) (fun b H=>if b then wpX g x (V++ys.map some) (fun y H=>I (k+1) (acc++(some y).toList) H) (fun _ _=>False) H else I (k+1) (acc++(none:Option AV).toList) H) (fun _ _=>False) H') else wpC g c (V++[some y]) (fun b H=>if b then wpX g x (V++[some y]) (fun y H=>I (k+1) (acc++(some y).toList) H) (fun _ _=>False) H else I (k+1) (acc++(none:Option AV).toList) H) (fun _ _=>False) H')
  (fin:∀ D Ca acc H' s' m',R Ca=none→I xs.length acc H'→H' D=none→St g.c (rup R Ca (.ns m')) (up H' D (.list acc)) s'.heap→Sm s₀ s'→RR' (.ref D) Ca (.ok .next) s') :
  wpAny (model g.c.prog g.c.w) A (pyIter u) (fun it s₂=>wpAny (model g.c.prog g.c.w) A (newList []) (fun acc s₃=>wpAny (model g.c.prog g.c.w) A (newFunctionEnv csc env.globals (Zdb env csc.names []) [] env.qual none .none (some env)) (fun cenv s₄ =>
   codeAny (model g.c.prog g.c.w) A (.compStart (.ListComp elt [⟨tg,iter,ifs,0⟩] csc pos) 0 it acc { cenv with scope:=relabel csc env }) (RR' acc cenv.locals) s₄) E s₃) E s₂) E s₁:=by
 obtain ⟨hkind,hcell,_⟩:=Zhw hm
 have hsv:∀ y,av = .str y→PyData.strOk y=true:=by rintro y rfl;cases hv;assumption
 refine Zp9 Ck hv S hxs fun s₂ a o ha hHa ho S₂ m₂=>?_
 refine wpAny_newObj_type (wpAny_newFunctionEnv hcell (by intro y hy;simp at hy) (fun h₁ hns1 hsb1=>?_) hkind)
 dsimp only at hns1 hsb1 ⊢
 obtain ⟨hD1,hD2,S₃⟩:=S₂.newRes (x:=s₂.heap.objs.size) (r:=.obj (listOf #[] 0)) (h':=s₂.heap.push { cls:=.type "list",dict:=none,data:=.seq ([]:List Value).toArray }) (Nat.le_refl _) (fun _ _ z=>Heap.get?_push_of_some _ z) (by rw [Heap.size_push];omega) (Heap.get?_push_size _ rfl)
 generalize hH2:s₂.heap.push { cls:=.type "list",dict:=none,data:=.seq ([]:List Value).toArray } = H2 at hns1 hsb1 S₃ ⊢
 obtain ⟨hC1,hC2,S₄⟩:=S₃.newRes (x:=H2.objs.size) (r:=.ns _) (h':=h₁) (Nat.le_refl _) (fun b ob z=>hsb1.extBut b ob (Nat.ne_of_lt (Heap.lt_size z)) (Heap.get?_push_of_some _ z)) (by rw [hsb1.1,Heap.size_push];omega) hns1
 generalize s₂.heap.objs.size=D at hD1 hD2 S₃ S₄ hC1 ⊢
 generalize H2.objs.size=Ca at hC1 hC2 S₄ hns1 hsb1 ⊢
 have hDa:D≠a:=fun z=>by rw [z,Zak] at hD1;contradiction
 have hCD:Ca≠D:=fun z=>by rw [z,Zak] at hC1;contradiction
 rw [Zaf hCD] at hC1
 have hCa:Ca≠a:=fun z=>by rw [z,Zak] at hC1;contradiction
 rw [Zaf hCa] at hC1
 rw [Zaf hDa] at hD1
 have loop:∀ s₃:Shared,s₃ = { s₂ with heap:=h₁,toks:=s₂.toks+([]:List (Str×Value)).length } →
   codeAny (model g.c.prog g.c.w) A (.compLoop (.ListComp elt [⟨tg,iter,ifs,0⟩] csc pos) 0 (.ref a) (.ref D) (compEnvC csc (Zdb env csc.names []) Ca env)) (RR' (.ref D) Ca) s₃:=by
  rintro s₃ rfl
  exact Zq9 Ck htg hh ev fr hm hx hc ha hD1 hC1 hDa hCa hCD hsv hxs hz step h0 ho S₄ ((ms.trans m₂).step _ _) fun acc H' s' m' h1 h2 h3 h4=>fin D Ca acc H' s' m' hC1 h1 h2 h3 h4
 refine codeAny_compStart_list (loop _ rfl) (Zvz ho ?_ (loop _ rfl))
 refine (S₄.res a (.obj o) ?_).2
 exact rl (Zaf (Ne.symm hCa)) (rl (Zaf (Ne.symm hDa)) (rl Zak rfl))
theorem Zv5 {x it:X} {c:Option X} {elt iter tg:Expr} {ifs:List Expr} {tup:Bool} {ts:List Str} {pos:Pos} (Ck:g.c.Ok mg mb) (htg:TgN tg tup ts) (ev:Ev g A R e₀ l₀) (fr:Frm R env sc nm V) (hm:Zcp sc csc nm ts=true)
  (hf:∀ x,foldedSetIterable iter env x=pure x) (hit:HX g A R V s₀ it (eval iter env)) (hx:XOk g csc (Zdw nm ts++ts) x elt) (hc:Ze8 g csc (Zdw nm ts++ts) c ifs) :
  HX g A R V s₀ (.comp x ts.length tup it c) (eval (.ListComp elt [⟨tg,iter,ifs,0⟩] csc pos) env):=fun H s Q E S m q=>by
 dsimp only [Zai,Zad,Zau,Zbq,Zba,x_ao,Zbp,Zan,Za2,Zat,Zas,Za1,Zao,Zal,x_bm,Zbn,Zaz,Zbj,Zcd,Zaq,Za9,Za5,Zbe,Zbf] at q
 obtain ⟨hmd,q⟩:=q
 refine rl (eval_ListComp ..) ?_
 refine wpAny_comprehension_free (use:=none) rfl hf (Zkx fr hm) (Zhw hm).1 (Zhw hm).2.2 ?_
 refine wpAny_mono (hit H s _ E S m q) (fun u s₁ z=>?_) fun _ _ z=>z
 obtain ⟨av,H₁,hv,S₁,m₁,xs,hxs,hz,I,hI,hstep⟩:=z
 refine Zis (I:=I) (RR':=fun acc Ca=>compPost (model g.c.prog g.c.w) A (TE g R s₀ E) none (TQ g R s₀ Q) acc Ca) Ck htg (ev.aok.hand hmd) ev fr hm hx hc hv S₁ m₁ hxs hz hI (fun k acc H' hi=>⟨(hstep k acc H' hi).1,(hstep k acc H' hi).2.2⟩) ?_
 intro D Ca acc H' s' m' hCa hi hd S' ms'
 refine ⟨m',(S'.res Ca _ Zak).2,fun h' hs'=>?_⟩
 refine ⟨.ref D,up H' D (.list acc),.ref D,(S'.dropAny (Zak) hs'.extBut (by refine rl hs'.1 ?_;exact S'.size)).weaken fun b r e=>?_,ms'.heap _,(hstep _ acc H' hi).2.1 rfl D hd⟩
 have hb:b≠Ca:=fun z=>by rw [z,hCa] at e;contradiction
 refine rl (Za3 hb) (rl (Zaf hb) ?_);exact e
theorem Zs9 {k v:X} {ke ve:Expr} {pos:Pos} (ev:Ev g A R e₀ l₀) (fr:Frm R env sc nm V) (hk:XOk g sc nm k ke) (hv:XOk g sc nm v ve):HX g A R V s₀ (.dict [k] [v]) (eval (.Dict [some ke] [ve] pos) env):=fun H s Q E S m q=>by
 dsimp only [Zai,Zad,Zau,Zbq,Zba,x_ao,Zbp,Zan,Za2,Zat,Zas,Za1,Zao,Zal,x_bm,Zbn,Zaz,Zbj,Zcd,Zaq,Za9,Za5,Zbe,Zbf] at q
 refine wpAny_Dict_walk (knd:=strKind g.c.prog g.c.w) rfl rfl (by simp) (by simp) ?_
 obtain ⟨hR,hH,S₁⟩:=S.newRes (x:=s.heap.objs.size) (r:=.obj { cls:=.type "dict",data:=.dict #[] }) (h':=s.heap.push { cls:=.type "dict",data:=.dict #[] }) (Nat.le_refl _) (fun _ _ z=>Heap.get?_push_of_some _ z) (by refine rl (Heap.size_push ..) ?_;omega) (Heap.get?_push_size _ rfl)
 generalize s.heap.objs.size=d at hR hH S₁ ⊢
 generalize s.heap.push { cls:=.type "dict",data:=.dict #[] } = h₁ at S₁ ⊢
 have hle:∀ b r,R b=some r→rup R d (.obj { cls:=.type "dict",data:=.dict #[] }) b=some r:=fun b r e=>by
  refine rl (Zaf (fun z=>by rw [z,hR] at e;contradiction)) ?_;exact e
 have ev':Ev g A (rup R d (.obj { cls:=.type "dict",data:=.dict #[] })) e₀ l₀:=⟨ev.aok,Zt1 ev.stk hle⟩
 have fr':Frm (rup R d (.obj { cls:=.type "dict",data:=.dict #[] })) env sc nm V:=fr.congr fun b hb=>Zaf fun z=>by
  rw [z] at hb;rcases hb with ⟨_,hb⟩ | ⟨_,hb⟩<;>(rw [hR] at hb;contradiction)
 have te:∀ {e:Value} {s':Shared},TE g (rup R d (.obj { cls:=.type "dict",data:=.dict #[] })) s₀ E e s'→TE g R s₀ E e s':=by
  rintro e s' ⟨a,cl,H',e1,X,ms,q⟩;exact ⟨a,cl,H',e1,X.weaken hle,ms,q⟩
 refine pairTrees_cons_walk (wpAny_mono ((hk A _ V env e₀ l₀ s₀ ev' fr').1 H _ _ E S₁ (m.heap _) q) (fun kv s₂ z=>?_) fun _ _ z=>te z)
 obtain ⟨ka,H₂,hka,S₂,m₂,q₂⟩:=z
 refine wpAny_mono ((hv A _ V env e₀ l₀ s₀ ev' fr').1 H₂ _ _ E S₂ m₂ q₂) (fun vv s₃ z=>?_) fun _ _ z=>te z
 obtain ⟨va,H₃,hva,S₃,m₃,q₃⟩:=z
 refine pairTrees_nil_walk ?_
 cases hka with
 | str ks tk hok =>
  dsimp only at q₃
  have hd₃:s₃.heap.get? d=some { cls:=.type "dict",data:=.dict #[] }:=(S₃.res d _ Zak).2
  refine ⟨[(ks,vv)],⟨?_,rfl,trivial⟩,⟨_,#[],0,hd₃,⟨rfl,rfl,rfl⟩,rfl,fun _ h=>by simp at h,.nil,List.nodup_nil⟩,fun h' hd hs=>?_⟩
  ·exact strKind_is _ _ ks tk
  ·obtain ⟨o',es',ep,hda⟩:=hd
   obtain ⟨hn,S₄⟩:=S₃.give (h':=h') (ao:=.dict ep [(ks,va)]) Zak hs (by intro _ _ z;contradiction) fun _=>⟨[(ks,vv)],⟨o',es',hda⟩,.cons hok hva .nil⟩
   refine ⟨.ref d,_,.ref d,S₄.weaken fun b r e=>?_,m₃.step _ _,q₃ d ep hn⟩
   have hb:b≠d:=fun z=>by rw [z,hR] at e;contradiction
   refine rl (Za3 hb) (rl (Zaf hb) ?_);exact e
 | none=>exact q₃.elim
 | bool=>exact q₃.elim
 | int=>exact q₃.elim
 | ref=>exact q₃.elim
end
end Mine
end
section
namespace Mine
section
variable {g:Gx} {mg mb:Str→Option Value} (C:g.c.Ok mg mb) (PO:PgOk g.c)
theorem Zfe {sc:Scope} {nm:List Str} {xs:List X} {es:List Expr} {A:Around} {R:RR} {V:VV} {env:Env} {e₀:Env} {l₀:List Env} {s₀:Shared} (h:Each (fun x e=>XOk g sc nm x e∧Zc2 e=true) xs es) (ev:Ev g A R e₀ l₀) (fr:Frm R env sc nm V) :
  Zfi g A R V s₀ env xs es:=by
 induction h with
 | nil=>exact .nil
 | cons a _ ih=>exact .cons ⟨(a.1 A R V env e₀ l₀ s₀ ev fr).1,a.2⟩ ih
theorem Ztj {sc:Scope} {nm:List Str} {xs:List X} {es:List Expr} {A:Around} {R:RR} {V:VV} {env:Env} {e₀:Env} {l₀:List Env} {s₀:Shared} (h:Each (fun x e=>XOk g sc nm x e∧Zc2 e=true) xs es) (ev:Ev g A R e₀ l₀) (fr:Frm R env sc nm V) :
  Each (fun x e=>HX g A R V s₀ x (eval e env)) xs es:=by
 induction h with
 | nil=>exact .nil
 | cons a _ ih=>exact .cons (a.1 A R V env e₀ l₀ s₀ ev fr).1 ih
theorem Zti {sc:Scope} {nm:List Str} {xs:List X} {es:List Expr} {A:Around} {R:RR} {V:VV} {env:Env} {e₀:Env} {l₀:List Env} {s₀:Shared} (h:Each (fun x e=>XOk g sc nm x e∧Zc2 e=true) xs es) (ev:Ev g A R e₀ l₀) (fr:Frm R env sc nm V) :
  Each (fun x e=>HT g A R V s₀ x (isTrue e env (eval e env))) xs es:=by
 induction h with
 | nil=>exact .nil
 | cons a _ ih=>exact .cons (a.1 A R V env e₀ l₀ s₀ ev fr).2 ih
theorem XOk.of {sc:Scope} {nm:List Str} {x:X} {e:Expr} (h:∀ (A:Around) (R:RR) (V:VV) (env:Env) (e₀:Env) (l₀:List Env) (s₀:Shared),Ev g A R e₀ l₀→Frm R env sc nm V→HX g A R V s₀ x (eval e env))
  (he:∀ env whole,isTrue e env whole=(do let v ← whole;standAt e.pos;holding [v] (truthy v))):XOk g sc nm x e:=fun A R V env e₀ l₀ s₀ ev fr =>
 ⟨h A R V env e₀ l₀ s₀ ev fr,HT.plain (h A R V env e₀ l₀ s₀ ev fr) (he _ _)⟩
theorem Zga {iter:Expr} {env:Env} (h:Zig iter=true) (x:Value):foldedSetIterable iter env x=pure x:=by
 cases iter<;>first | rfl | exact Bool.noConfusion h
include C PO in
mutual
theorem sX:∀ (x:X) (e:Expr) (top:Bool) (sc:Scope) (nm:List Str),mtX g.c.P top sc nm x e=true→XOk g sc nm x e
 | .lit v,e,top,sc,nm,h=>Zhk (m:=XOk g sc nm (.lit v)) h fun _ _ _ h=>.of (fun _ _ _ _ _ _ _ _ _=>Zyi h) fun _ _=>rfl
 | .var i,e,top,sc,nm,h=>Zsu (m:=XOk g sc nm (.var i)) h fun _ _ h1 h2 h3=>.of (fun _ _ _ _ _ _ _ _ fr=>Zyd fr h1 h2 h3) fun _ _=>rfl
 | .glob n,e,top,sc,nm,h=>Zmm (m:=XOk g sc nm (.glob n)) h fun _ _ h=>.of (fun _ _ _ _ _ _ _ _ fr=>Zv4 C PO fr h) fun _ _=>rfl
 | .bin op a b,e,top,sc,nm,h=>Zs1 (m:=XOk g sc nm (.bin op a b)) h fun l r p h1 h2 =>
  .of (fun A R V env e₀ l₀ s₀ ev fr=>Zym C ev (sX a l top sc nm h1 A R V env e₀ l₀ s₀ ev fr).1 (sX b r top sc nm h2 A R V env e₀ l₀ s₀ ev fr).1) fun _ _=>rfl
 | .neg a,e,top,sc,nm,h=>Zsx (m:=XOk g sc nm (.neg a)) h fun l p h=>.of (fun A R V env e₀ l₀ s₀ ev fr=>Zyh (sX a l top sc nm h A R V env e₀ l₀ s₀ ev fr).1) fun _ _=>rfl
 | .not a,e,top,sc,nm,h=>Zsw (m:=XOk g sc nm (.not a)) h fun l p h A R V env e₀ l₀ s₀ ev fr=>have z:=sX a l top sc nm h A R V env e₀ l₀ s₀ ev fr;⟨Zyf z.1,Zyn z.2⟩
 | .ao isAnd xs,e,top,sc,nm,h=>Zvs (m:=XOk g sc nm (.ao isAnd xs)) h fun vs p h A R V env e₀ l₀ s₀ ev fr=>have z:=sXs xs vs top sc nm h;⟨Z0e (Ztj z ev fr),Z0f (Zti z ev fr)⟩
 | .ite c a b,e,top,sc,nm,h=>Zsy (m:=XOk g sc nm (.ite c a b)) h fun t x y p h1 h2 h3 A R V env e₀ l₀ s₀ ev fr =>
  have z1:=sX c t top sc nm h1 A R V env e₀ l₀ s₀ ev fr;have z2:=sX a x top sc nm h2 A R V env e₀ l₀ s₀ ev fr;have z3:=sX b y top sc nm h3 A R V env e₀ l₀ s₀ ev fr;⟨Zyj z1.2 z2.1 z3.1,Zyo z1.2 z2.2 z3.2⟩
 | .cmp op a b,e,top,sc,nm,h=>Zs0 (m:=XOk g sc nm (.cmp op a b)) h fun l r p h0 h1 h2 A R V env e₀ l₀ s₀ ev fr =>
  have z1:=sX a l top sc nm h1 A R V env e₀ l₀ s₀ ev fr;have z2:=sX b r top sc nm h2 A R V env e₀ l₀ s₀ ev fr;⟨Zyl C ev h0 z1.1 z2.1,Zyp C ev h0 z1.1 z2.1⟩
 | .cmp2 op1 op2 a b d,e,top,sc,nm,h=>Zp4 (m:=XOk g sc nm (.cmp2 op1 op2 a b d)) h fun l r₁ r₂ p h0 h1 h2 h3 A R V env e₀ l₀ s₀ ev fr =>
  have z1:=sX a l top sc nm h1 A R V env e₀ l₀ s₀ ev fr;have z2:=sX b r₁ top sc nm h2 A R V env e₀ l₀ s₀ ev fr;have z3:=sX d r₂ top sc nm h3 A R V env e₀ l₀ s₀ ev fr;⟨Zv6 C ev h0 z1.1 z2.1 z3.1,Zv9 C ev h0 z1.1 z2.1 z3.1⟩
 | .sub a i,e,top,sc,nm,h=>Zmo (m:=XOk g sc nm (.sub a i)) h fun v sl p h0 h1 h2 =>
  .of (fun A R V env e₀ l₀ s₀ ev fr=>Zye C h0 (sX a v top sc nm h1 A R V env e₀ l₀ s₀ ev fr).1 (sX i sl top sc nm h2 A R V env e₀ l₀ s₀ ev fr).1) fun _ _=>rfl
 | .slice a lo hi st,e,top,sc,nm,h=>Zn0 (m:=XOk g sc nm (.slice a lo hi st)) h fun v l u t p q h0 h1 h2 h3 =>
  .of (fun A R V env e₀ l₀ s₀ ev fr=>Zs8 (sX a v top sc nm h0 A R V env e₀ l₀ s₀ ev fr).1 (sO lo l top sc nm h1 A R V env e₀ l₀ s₀ ev fr) (sO hi u top sc nm h2 A R V env e₀ l₀ s₀ ev fr) (sO st t top sc nm h3 A R V env e₀ l₀ s₀ ev fr)) fun _ _=>rfl
 | .attr a n,e,top,sc,nm,h=>Zp6 (m:=XOk g sc nm (.attr a n)) h fun v p h1 h2=>.of (fun A R V env e₀ l₀ s₀ ev fr=>Zv8 C PO h1 (sX a v top sc nm h2 A R V env e₀ l₀ s₀ ev fr).1) fun _ _=>rfl
 | .call f xs,e,top,sc,nm,h=>Zfv (m:=XOk g sc nm (.call f xs)) h fun fe as p h0 h1 h2=>.of (fun _ _ _ _ _ _ _ ev fr=>Zv7 C PO ev fr h0 h1 (Zfe (sXs xs as top sc nm h2) ev fr)) fun _ _=>rfl
 | .new f xs,e,top,sc,nm,h=>Zfv (m:=XOk g sc nm (.new f xs)) h fun fe as p h0 h1 h2=>.of (fun _ _ _ _ _ _ _ ev fr=>Zyg C PO ev fr h0 h1 (Zfe (sXs xs as top sc nm h2) ev fr)) fun _ _=>rfl
 | .meth a m xs,e,top,sc,nm,h=>Zkh (m:=XOk g sc nm (.meth a m xs)) h fun o _ as _ h1 h2 h3 h4 h5=>.of (fun A R V env e₀ l₀ s₀ ev fr=>Zv2 C PO ev h2 h1 h3 (sX a o top sc nm h4 A R V env e₀ l₀ s₀ ev fr).1 (Zfe (sXs xs as top sc nm h5) ev fr)) fun _ _=>rfl
 | .bm a m xs,e,top,sc,nm,h=>Zkh (m:=XOk g sc nm (.bm a m xs)) h fun o _ as _ h1 h2 h3 h4 h5=>.of (fun A R V env e₀ l₀ s₀ ev fr=>Z0d C ev h2 h1 h3 (sX a o top sc nm h4 A R V env e₀ l₀ s₀ ev fr).1 (Zfe (sXs xs as top sc nm h5) ev fr)) fun _ _=>rfl
 | .prim f xs,e,top,sc,nm,h=>Zfv (m:=XOk g sc nm (.prim f xs)) h fun fe as p h0 h1 h2=>.of (fun _ _ _ _ _ _ _ ev fr=>Zv1 C PO ev fr h0 h1 (Zfe (sXs xs as top sc nm h2) ev fr)) fun _ _=>rfl
 | .isinst a ty,e,top,sc,nm,h=>Zsz (m:=XOk g sc nm (.isinst a ty)) h fun fe x t p hs h0 h1 h2 h3 h4=>.of (fun A R V env e₀ l₀ s₀ ev fr=>Zqi C PO fr h0 h1 h2 h3 (sX a x top sc nm h4 A R V env e₀ l₀ s₀ ev fr).1 hs) fun _ _=>rfl
 | .list xs,e,top,sc,nm,h=>Zp3 (m:=XOk g sc nm (.list xs)) h fun es p h1 h2=>.of (fun _ _ _ _ _ _ _ ev fr=>Zv3 (Zfe (sXs xs es top sc nm h1) ev fr) h2) fun _ _=>rfl
 | .tuple xs,e,top,sc,nm,h=>Zsv (m:=XOk g sc nm (.tuple xs)) h fun es k p h1 h2=>.of (fun _ _ _ _ _ _ _ ev fr=>Zs7 (Zfe (sXs xs es top sc nm h1) ev fr) h2) fun _ _=>rfl
 | .dict ks vs,e,top,sc,nm,h=>match ks,vs,h with
  | [],[],h=>Zn2 (m:=XOk g sc nm (.dict [] [])) h fun _=>.of (fun _ _ _ _ _ _ _ _ _=>Zta) fun _ _=>rfl
  | [k],[v],h=>Zn1 (m:=XOk g sc nm (.dict [k] [v])) h fun ks' vs' p h1 h2 =>
   Zdk (m:=fun ks'=>XOk g sc nm (.dict [k] [v]) (.Dict ks' vs' p)) h1 fun o r h1=>Zb4 (m:=fun r=>XOk g sc nm (.dict [k] [v]) (.Dict (o::r) vs' p)) (and2 h1).2
    (Zey (m:=fun o=>XOk g sc nm (.dict [k] [v]) (.Dict [o] vs' p)) (and2 h1).1 fun a ha =>
    Zdk (m:=fun vs'=>XOk g sc nm (.dict [k] [v]) (.Dict [some a] vs' p)) h2 fun b r h2=>Zb4 (m:=fun r=>XOk g sc nm (.dict [k] [v]) (.Dict [some a] (b::r) p)) (and2 h2).2
    (.of (fun _ _ _ _ _ _ _ ev fr=>Zs9 ev fr (sX k a top sc nm ha) (sX v b top sc nm (and2 (and2 h2).1).1)) fun _ _=>rfl))
  | [],_::_,h=>Zdd (m:=XOk g sc nm _) h fun _ _ _ h=>Bool.noConfusion h
  | [_],[],h=>Zdd (m:=XOk g sc nm _) h fun _ _ _ h=>Bool.noConfusion h
  | [_],_::_::_,h=>Zdd (m:=XOk g sc nm _) h fun _ _ _ h=>Bool.noConfusion h
  | _::_::_,_,h=>Zdd (m:=XOk g sc nm _) h fun _ _ _ h=>Bool.noConfusion h
 | .comp x k tup it c,e,top,sc,nm,h=>Zki (m:=XOk g sc nm (.comp x k tup it c)) h fun elt tg iter ifs csc ts p htg o =>
  .of (fun A R V env e₀ l₀ s₀ ev fr=>o.len▸Zv5 C htg ev fr o.sc (Zga o.set) (sX it iter top sc nm o.it A R V env e₀ l₀ s₀ ev fr).1 (sX x elt false _ _ o.x) (sC c ifs _ _ o.c)) fun _ _=>rfl
theorem sC:∀ (c:Option X) (es:List Expr) (sc:Scope) (nm:List Str),mtC g.c.P sc nm c es=true→Ze8 g sc nm c es
 | none,es,sc,nm,h=>Zb4 (m:=Ze8 g sc nm none) h .nil
 | some x,es,sc,nm,h=>Zfb (m:=Ze8 g sc nm (some x)) h fun e h=>.one (sX x e false sc nm h)
theorem sXs:∀ (xs:List X) (es:List Expr) (top:Bool) (sc:Scope) (nm:List Str),mtXs g.c.P top sc nm xs es=true→Each (fun x e=>XOk g sc nm x e∧Zc2 e=true) xs es
 | [],es,top,sc,nm,h=>Zb4 (m:=Each (fun x e=>XOk g sc nm x e∧Zc2 e=true) []) h .nil
 | x::r,es,top,sc,nm,h=>Zdk (m:=Each (fun x e=>XOk g sc nm x e∧Zc2 e=true) (x::r)) h fun e q h=>.cons ⟨sX x e top sc nm (and2 (and2 h).1).1,(and2 (and2 h).1).2⟩ (sXs r q top sc nm (and2 h).2)
theorem sO:∀ (o:Option X) (e:Option Expr) (top:Bool) (sc:Scope) (nm:List Str),mtO g.c.P top sc nm o e=true →
  ∀ (A:Around) (R:RR) (V:VV) (env:Env) (e₀:Env) (l₀:List Env) (s₀:Shared),Ev g A R e₀ l₀→Frm R env sc nm V→HO g A R V s₀ env o e
 | none,none,top,sc,nm,h=>fun _ _ _ _ _ _ _ _ _=>trivial
 | none,some _,top,sc,nm,h=>Bool.noConfusion h
 | some x,none,top,sc,nm,h=>Bool.noConfusion h
 | some x,some e,top,sc,nm,h=>fun A R V env e₀ l₀ s₀ ev fr=>(sX x e top sc nm h A R V env e₀ l₀ s₀ ev fr).1
end
end
end Mine
end
section
namespace Mine
section
variable {g:Gx} {sc:Scope} {nm:List Str} {mg mb:Str→Option Value}
abbrev XMd (g:Gx) (sc:Scope) (nm:List Str) (x:X) (e:Expr):Prop:=∀ md,XOk { g with md:=md } sc nm x e
theorem Zfj {md:Bool} {R:RR} {env:Env} {V:VV} {s₀ s':Shared} {E:String→VV→Zaa→Prop} {e:Value} (fr:Frm R env sc nm V) (h:TE { g with md:=md } R s₀ (fun cl H=>E cl V H) e s'):TX g env sc nm R s₀ E e s':=by
 obtain ⟨a,cl,H',rfl,x,m,q⟩:=h
 exact ⟨a,cl,R,V,H',.none,rfl,.refl,fr,.inr (.inl rfl),x,m,q⟩
theorem TF.trans {R R':RR} {env:Env} {s₀ s':Shared} {QN:VV→Zaa→Prop} {QR:AV→Zaa→Prop} {f:Flow} (x:RStep env R R') (h:TF g env sc nm R' s₀ QN QR f s'):TF g env sc nm R s₀ QN QR f s':=by
 cases f with
 | next=>obtain ⟨R2,V',H',r,k1,k2,k3,k4⟩:=h;exact ⟨R2,V',H',x.trans r,k1,k2,k3,k4⟩
 | ret v=>obtain ⟨R2,V',H',r,k1,k2,k3,k4⟩:=h;exact ⟨R2,V',H',x.trans r,k1,k2,k3,k4⟩
 | brk=>exact h
 | cont=>exact h
theorem TX.trans {R R':RR} {env:Env} {s₀ s':Shared} {E:String→VV→Zaa→Prop} {e:Value} (x:RStep env R R') (h:TX g env sc nm R' s₀ E e s'):TX g env sc nm R s₀ E e s':=by
 obtain ⟨a,cl,R2,V',H',fl,h1,r,k1,k2,k3,k4,k5⟩:=h
 exact ⟨a,cl,R2,V',H',fl,h1,x.trans r,k1,k2,k3,k4,k5⟩
theorem Zor {v o ix:Expr} {p:Pos} {l:Nat} {env:Env}:swapsWith v (some (.Subscript o ix p)) l env=pure false:=by
 cases v<;>rfl
theorem Zg4 {v:Expr} {t:Option Expr} {l:Nat} {env:Env} (h:Zfc v=true):swapsWith v t l env=pure false:=by
 cases v<;>first | rfl | exact Bool.noConfusion h
theorem Zzt {e:X} {v:Expr} {pos:Pos} (hx:XMd g sc nm e v):SOk g sc nm (fun g=>wpS g (.ret e)) (exec (.Return (some v) pos)):=fun md A env l₀ R V s₀ s H QN QR E ev fr S m q=>by
 dsimp only [Zay,Zbh,Zam,Zar,Za4,Zb3,Zbv,Zdg,Zcv] at q
 refine wpAny_Return_some (wpAny_mono ((hx md A R V env env l₀ s₀ ev fr).1 H s _ _ S m q) (fun u s' z=>?_) fun _ _ z=>Zfj fr z)
 obtain ⟨av,H',hv,S',m',q'⟩:=z
 exact ⟨R,av,H',.refl,hv,S',m',q'⟩
theorem Zxb {pos:Pos}:SOk g sc nm (fun g=>wpS g .pass) (exec (.Pass pos)):=fun md A env l₀ R V s₀ s H QN QR E ev fr S m q=>by
 dsimp only [Zay,Zbh,Zam,Zar,Za4,Zb3,Zbv,Zdg,Zcv] at q
 exact wpAny_Pass ⟨R,V,H,.refl,fr,S,m,q⟩
theorem Zxd {e:X} {v:Expr} {pos:Pos} (hn:Zfc v=true) (hx:XMd g sc nm e v):SOk g sc nm (fun g=>wpS g (.expr e)) (exec (.Expr v pos)):=fun md A env l₀ R V s₀ s H QN QR E ev fr S m q=>by
 dsimp only [Zay,Zbh,Zam,Zar,Za4,Zb3,Zbv,Zdg,Zcv] at q
 refine wpAny_Expr_any (wpAny_mono ((hx md A R V env env l₀ s₀ ev fr).1 H s _ _ S m q) (fun u s' z=>?_) fun _ _ z=>Zfj fr z) (by unfold interactive;refine rl fr.kind ?_;rfl) (Zg4 hn)
 obtain ⟨av,H',hv,S',m',q'⟩:=z
 exact ⟨R,V,H',.refl,fr,S',m',q'⟩
theorem Zl9 {i:Nat} {is:List Nat} {es:List Expr} (h:Zh0 sc nm (i::is) es=true):∃ id p r,es = .Name id p::r∧nm[i]? = some id∧Zdv sc id=true∧Zh0 sc nm is r=true :=
 Zdk (m:=fun es=>∃ id p r,es = .Name id p::r∧nm[i]? = some id∧Zdv sc id=true∧Zh0 sc nm is r=true) h fun e r h =>
  Zg3 (m:=fun e=>∃ id p r',e::r = .Name id p::r'∧nm[i]? = some id∧Zdv sc id=true∧Zh0 sc nm is r'=true) (and2 h).1 fun id p h1 h2=>⟨id,p,r,rfl,h1,h2,(and2 h).2⟩
theorem Zrv {env:Env} {is:List Nat} {es:List Expr} (h:Zh0 sc nm is es=true):(assignEach es env).length=is.length∧(assignEach es env).findIdx? (·.1)=none:=by
 induction is generalizing es with
 | nil =>
  have:es=[]:=by cases es with | nil=>rfl | cons=>contradiction
  subst this;exact ⟨rfl,rfl⟩
 | cons i is ih =>
  obtain ⟨id,p,r,rfl,_,_,h4⟩:=Zl9 h
  obtain ⟨i1,i2⟩:=ih h4
  exact ⟨congrArg Nat.succ i1,by show List.findIdx? _ ((false,_)::assignEach r env)=none;refine rl (List.findIdx?_cons) (rl i2 ?_);rfl⟩
set_option tactic.hygienic true in
theorem Zr1 {c:Cx} {H:Zaa} {A:Around} {E:Value→Shared→Prop} {env:Env} {Q:Unit→Shared→Prop} (nd:nm.Nodup) {is:List Nat} {es:List Expr} {xs:List AV} {vs:List Value} {R:RR} {V:VV} {s:Shared} (h:Zh0 sc nm is es=true) (hv:VRs xs vs) (hl:xs.length=is.length)
  (fr:Frm R env sc nm V) (S:St c R H s.heap) (q:∀ s' R',RStep env R R'→Frm R' env sc nm (Zh7 V is xs)→St c R' H s'.heap→Sm s s'→Q () s'):wpAny (model c.prog c.w) A (assignInOrder ((assignEach es env).map (·.2)) vs) Q E s:=by
 induction is generalizing es xs vs R V s with
 | nil =>
  have:es=[]:=by cases es with | nil=>rfl | cons=>contradiction
  subst this
  cases hv with
  | nil=>exact wpAny_pure (q s R .refl fr S ⟨_,_,rfl⟩)
  | cons=>cases hl
 | cons i is ih =>
  obtain ⟨id,p,r,rfl,h2,h3,h4⟩:=Zl9 h
  cases hv with
  | nil=>cases hl
  | cons hv1 hvr =>
  rename_i y v ys' vs'
  show wpAny _ A (do holding vs' (assign (.Name id p) env v);assignInOrder ((assignEach r env).map (·.2)) vs') Q E s
  refine wpAny_bind (wpAny_holding (wpAny_assign_Name (Zf3 fr nd h2 h3 hv1 S fun s₁ R1 r₁ f₁ S₁ m₁=>?_)))
  exact ih h4 hvr (Nat.succ.inj hl) f₁ S₁ fun s' R' r' f' S' m'=>q s' R' (r₁.trans r') f' S' (m₁.trans m')
theorem Zom {is:List Nat} {e:Expr} (h:Zon sc nm is e=true):∃ es k p,e = .Tuple es k p∧Zh0 sc nm is es=true :=
 Zhi (m:=fun e=>∃ es k p,e = .Tuple es k p∧Zh0 sc nm is es=true) h fun es k p h=>⟨es,k,p,rfl,h⟩
set_option tactic.hygienic true in
theorem Zzf {k:Nat} {y:AV} {H:Zaa} {P:List AV→Prop} (hw:Zb2 k y H P):∃ p xs,y = .ref p∧(H p=some (.tuple xs)∨H p=some (.list xs))∧xs.length=k∧P xs:=by
 cases y with
 | ref p =>
  simp only [Zb2] at hw
  split at hw
  ·rename_i xs e;exact ⟨p,xs,rfl,.inl e,hw⟩
  ·rename_i xs e;exact ⟨p,xs,rfl,.inr e,hw⟩
  ·exact hw.elim
 | _=>exact hw.elim
theorem Zt2 {c:Cx} {H:Zaa} {A:Around} {E:Value→Shared→Prop} {env:Env} {Q:Unit→Shared→Prop} {mg mb:Str→Option Value} {is:List Nat} {e:Expr} {x:AV} {u:Value} {R:RR} {V:VV} {s:Shared} {P:List AV→Prop} (C:c.Ok mg mb) (hh:A.handled=none) (nd:nm.Nodup) (h:Zon sc nm is e=true) (hv:VR x u)
  (hw:Zb2 is.length x H P) (fr:Frm R env sc nm V) (S:St c R H s.heap) (q:∀ s' R' xs,P xs→RStep env R R'→Frm R' env sc nm (Zh7 V is xs)→St c R' H s'.heap→Sm s s'→Q () s'):wpAny (model c.prog c.w) A (assign e env u) Q E s:=by
 obtain ⟨es,k,pp,rfl,h⟩:=Zom h
 obtain ⟨p,xs,rfl,hx,hl,hP⟩:=Zzf hw
 cases hv
 obtain ⟨l1,l2⟩:=Zrv (env:=env) h
 obtain ⟨mL,hL,_⟩:=fr.ns
 refine rl (assign_Tuple ..) ?_
 unfold unpack
 refine rl l1 (rl l2 (rl hl.symm ?_))
 refine wpAny_bind (wpAny_standAt (wpAny_bind (wpAny_holding (Zjv C hh hL S hx fun s₁ vs hvs S₁ m₁=>?_))))
 exact Zr1 nd h hvs hl fr S₁ fun s' R' r' f' S' m'=>q s' R' xs hP r' f' S' (m₁.trans m')
theorem Zzl {c:Cx} {H:Zaa} {A:Around} {E:Value→Shared→Prop} {env:Env} {Q:Unit→Shared→Prop} {mg mb:Str→Option Value} {t:Tg} {e:Expr} {x:AV} {u:Value} {R:RR} {V:VV} {s:Shared} {P:VV→Prop} (C:c.Ok mg mb) (hh:A.handled=none) (nd:nm.Nodup) (h:tgOk sc nm t e=true) (hv:VR x u)
  (hw:wtg t x V H P) (fr:Frm R env sc nm V) (S:St c R H s.heap) (q:∀ s' R' V',P V'→RStep env R R'→Frm R' env sc nm V'→St c R' H s'.heap→Sm s s'→Q () s'):wpAny (model c.prog c.w) A (assign e env u) Q E s:=by
 cases t with
 | var i =>
  exact Zg3 (m:=fun e=>wpAny (model c.prog c.w) A (assign e env u) Q E s) h fun _ _ h1 h2=>wpAny_assign_Name (Zf3 fr nd h1 h2 hv S fun s' R' r' f' S' m'=>q s' R' _ hw.2 r' f' S' m')
 | tup is=>exact Zt2 C hh nd h hv hw fr S fun s' R' xs hP r' f' S' m'=>q s' R' _ hP r' f' S' m'
theorem Zoq {v:Expr} {es:List Expr} {k p} {l:Nat} {env:Env}:swapsWithSole [.Tuple es k p] v l env=pure false:=by
 show swapsWith v (some (.Tuple es k p)) l env=pure false
 cases v<;>rfl
theorem Zne {v:Expr} {es:List Expr} {k p} {env:Env} (h:Zkd v=true):swappedStores [.Tuple es k p] v env=pure none:=by
 cases v<;>first | rfl | exact Bool.noConfusion h
theorem Znh {is:List Nat} {e:X} {tg v:Expr} {pos:Pos} (C:g.c.Ok mg mb) (nd:nm.Nodup) (hn:Zkd v=true) (ht:Zon sc nm is tg=true) (hx:XMd g sc nm e v):SOk g sc nm (fun g=>wpS g (.assign (.tup is) e)) (exec (.Assign [tg] v pos)) :=
 fun md A env l₀ R V s₀ s H QN QR E ev fr S m q=>by
 dsimp only [Zay,Zbh,Zam,Zar,Za4,Zb3,Zbv,Zdg,Zcv,tv,tsub,tattr,ttup] at q
 obtain ⟨es,k,pp,rfl,_⟩:=Zom ht
 refine Assign_Tuple (wpAny_mono ((hx md A R V env env l₀ s₀ ev fr).1 H s _ _ S m q) (fun u s₁ z=>?_) fun _ _ z=>Zfj fr z) Zoq (Zne hn)
 obtain ⟨av,H',hv,S',m',hmd,q'⟩:=z
 exact Zt2 C (ev.aok.hand hmd) nd ht hv q' fr S' fun s₂ R' xs hP r' f' S₂ m₂=>⟨R',_,H',r',f',S₂,m'.trans m₂,hP⟩
theorem Zng {i:Nat} {e:X} {tg v:Expr} {pos:Pos} (nd:nm.Nodup) (hn:Zfc v=true) (ht:Zna sc nm i tg=true) (hx:XMd g sc nm e v):SOk g sc nm (fun g=>wpS g (.assign (.var i) e)) (exec (.Assign [tg] v pos)) :=
 fun md A env l₀ R V s₀ s H QN QR E ev fr S m q=>by
 dsimp only [Zay,Zbh,Zam,Zar,Za4,Zb3,Zbv,Zdg,Zcv,tv,tsub,tattr,ttup] at q
 refine Zg3 (m:=fun tg=>wpAny (model g.c.prog g.c.w) A (exec (.Assign [tg] v pos) env) (TF g env sc nm R s₀ QN QR) (TX g env sc nm R s₀ E) s) ht fun id p h1 h2=>?_
 refine wpAny_Assign_Name (wpAny_mono ((hx md A R V env env l₀ s₀ ev fr).1 H s _ _ S m q) (fun u s₁ z=>?_) fun _ _ z=>Zfj fr z) (Zg4 hn)
 obtain ⟨av,H',hv,S',m',_,q'⟩:=z
 exact Zf3 fr nd h1 h2 hv S' fun s₂ R' r f' S₂ m₂=>⟨R',_,H',r,f',S₂,m'.trans m₂,q'⟩
theorem Frm.drop {R R':RR} {env:Env} {V V':VV} {Ca:Addr} (f:Frm R' env sc nm V') (fr:Frm R env sc nm V) (hCa:R Ca=none):Frm (Zcj R' Ca) env sc nm V':=by
 obtain ⟨k1,k2,k3,k4,k5,k6,k7,kc,kl,k8,⟨m,n1,n2⟩,k9⟩:=f
 obtain ⟨m',n1',_⟩:=fr.ns
 refine ⟨k1,k2,k3,k4,k5,k6,k7,kc,kl,k8,⟨m,by refine rl (Za3 (fun z=>by rw [z,hCa] at n1';contradiction)) ?_;exact n1,n2⟩,fun i n hn hk=>?_⟩
 obtain ⟨a,x,v,c1,c2,c3⟩:=k9 i n hn hk
 obtain ⟨a',x',v',c1',c2',c3'⟩:=fr.cell i n hn hk
 rw [c1] at c1';obtain rfl:=Option.some.inj c1'
 exact ⟨a,x,v,c1,by refine rl (Za3 (fun z=>by rw [z,hCa] at c2';contradiction)) ?_;exact c2,c3⟩
theorem RStep.drop {env:Env} {R R':RR} {a:Addr} (x:RStep env R R'):RStep env (Zcj R a) (Zcj R' a):=fun b=>by
 by_cases z:b=a
 ·subst z;left;exact rl Zb7 (rl Zb7 rfl)
 ·refine rl (Za3 z) (rl (Za3 z) ?_);exact x b
theorem Zla {i:Nat} {x it:X} {c:Option X} {tg ctg elt iter:Expr} {ifs:List Expr} {tup:Bool} {ts:List Str} {csc:Scope} {pos spos:Pos} (C:g.c.Ok mg mb) (htg:TgN ctg tup ts) (nd:nm.Nodup) (ht:Zna sc nm i tg=true) (hm:Zcp sc csc nm ts=true)
  (hf:Zig iter=true) (hit:XMd g sc nm it iter) (hx:∀ md,XOk { g with md:=md } csc (Zdw nm ts++ts) x elt) (hc:∀ md,Ze8 { g with md:=md } csc (Zdw nm ts++ts) c ifs)
  (hcm:XMd g sc nm (.comp x ts.length tup it c) (.ListComp elt [⟨ctg,iter,ifs,0⟩] csc pos)):SOk g sc nm (fun g=>wpS g (.assign (.var i) (.comp x ts.length tup it c))) (exec (.Assign [tg] (.ListComp elt [⟨ctg,iter,ifs,0⟩] csc pos) spos)) :=
 fun md A env l₀ R V s₀ s H QN QR E ev fr S m q=>by
 dsimp only [Zay,Zbh,Zam,Zar,Za4,Zb3,Zbv,Zdg,Zcv,tv,tsub,tattr,ttup] at q
 refine Zg3 (m:=fun tg=>wpAny (model g.c.prog g.c.w) A (exec (.Assign [tg] (.ListComp elt [⟨ctg,iter,ifs,0⟩] csc pos) spos) env) (TF g env sc nm R s₀ QN QR) (TX g env sc nm R s₀ E) s) ht fun id p h1 h2=>?_
 obtain ⟨b,hsw⟩:∃ b,swapsWith (.ListComp elt [⟨ctg,iter,ifs,0⟩] csc pos) (some (.Name id p)) spos.line env=pure b:=⟨_,rfl⟩
 cases b with
 | false =>
  refine wpAny_Assign_Name (wpAny_mono ((hcm md A R V env env l₀ s₀ ev fr).1 H s _ _ S m q) (fun u s₁ z=>?_) fun _ _ z=>Zfj fr z) hsw
  obtain ⟨av,H',hv,S',m',_,q'⟩:=z
  exact Zf3 fr nd h1 h2 hv S' fun s₂ R' r f' S₂ m₂=>⟨R',_,H',r,f',S₂,m'.trans m₂,q'⟩
 | true =>
  dsimp only [Zai,Zad,Zau,Zbq,Zba,x_ao,Zbp,Zan,Za2,Zat,Zas,Za1,Zao,Zal,x_bm,Zbn,Zaz,Zbj,Zcd,Zaq,Za9,Za5,Zbe,Zbf] at q
  obtain ⟨hmd,q⟩:=q
  refine rl (exec_Assign_Name_used _ _ _ _ hsw) ?_
  refine wpAny_bind (wpAny_standAt (wpAny_bind ?_))
  show wpAny _ A (do let _ ← comprehension (.ListComp elt [⟨ctg,iter,ifs,0⟩] csc pos) csc env _ (newList []) false (eval iter env) (some (assign (.Name id p) env))) _ _ s
  refine wpAny_bind (wpAny_mono (wpAny_comprehension_free (use:=some (assign (.Name id p) env)) (Q:=fun _ s'=>TF g env sc nm R s₀ QN QR .next s') rfl (Zga hf) (Zkx fr hm) (Zhw hm).1 (Zhw hm).2.2 ?_)
   (fun _ s' hq=>wpAny_pure (wpAny_pure hq)) fun _ _ e=>e)
  refine wpAny_mono ((hit md A R V env env l₀ s₀ ev fr).1 H s _ (fun cl H=>E cl V H) S m q) (fun u s₁ z=>?_) fun _ _ z=>Zfj fr z
  obtain ⟨av,H₁,hv,S₁,m₁,xs,hxs,hz,I,hI,hstep⟩:=z
  refine Zis (g:={ g with md:=md }) (I:=I) (RR':=fun acc Ca=>compPost (model g.c.prog g.c.w) A (TX g env sc nm R s₀ E) (some (assign (.Name id p) env)) (fun _ s'=>TF g env sc nm R s₀ QN QR .next s') acc Ca) C htg (ev.aok.hand hmd) ev fr hm (hx md) (hc md) hv S₁ m₁ hxs hz hI (fun k acc H' hi=>⟨(hstep k acc H' hi).1,(hstep k acc H' hi).2.2⟩) ?_
  intro D Ca acc H' s' m' hCa hi hd S' ms'
  have f₁:Frm (rup R Ca (.ns m')) env sc nm V:=fr.congr fun b hb=>Zaf fun z=>by
   rw [z] at hb;rcases hb with ⟨_,hb⟩ | ⟨_,hb⟩<;>(rw [hCa] at hb;contradiction)
  show wpAny _ A (assign (.Name id p) env (.ref D)) _ _ _
  refine wpAny_assign_Name (Zf3 f₁ nd h1 h2 (.ref D) S' fun s₂ R' r f' S₂ m₂=>?_)
  obtain ⟨m'',hm''⟩:=r.ns Zak
  refine ⟨m'',(S₂.res Ca _ hm'').2,fun h' hs'=>?_⟩
  have hRR:Zcj (rup R Ca (.ns m')) Ca=R:=by
   funext b
   by_cases z:b=Ca
   ·subst z;exact rl Zb7 (rl hCa rfl)
   ·exact rl (Za3 z) (rl (Zaf z) rfl)
  have rd:=r.drop (a:=Ca)
  rw [hRR] at rd
  exact ⟨Zcj R' Ca,_,_,rd,f'.drop fr hCa,S₂.dropAny hm'' hs'.extBut (by refine rl hs'.1 ?_;exact S₂.size),(ms'.trans m₂).heap _,((hstep _ acc H' hi).2.1 rfl D hd).2⟩
theorem s_if {c:X} {a b:List S} {t:Expr} {x y:List Stmt} {pos:Pos} (hc:XMd g sc nm c t) (ha:SOk g sc nm (fun g=>wpSs g a) (execs x)) (hb:SOk g sc nm (fun g=>wpSs g b) (execs y)) :
  SOk g sc nm (fun g=>wpS g (.ite c a b)) (exec (.If t x y pos)):=fun md A env l₀ R V s₀ s H QN QR E ev fr S m q=>by
 dsimp only [Zay,Zbh,Zam,Zar,Za4,Zb3,Zbv,Zdg,Zcv] at q
 refine wpAny_If (wpAny_mono ((hc md A R V env env l₀ s₀ ev fr).2 H s (fun _ t H=>if t then wpSs { g with md:=md } a QN QR E V H else wpSs { g with md:=md } b QN QR E V H) (fun cl H=>E cl V H) S m q) (fun u s' z=>?_) fun _ _ z=>Zfj fr z)
 obtain ⟨v,H',S',m',q',_⟩:=z
 cases u with
 | true=>exact ha md A env l₀ R V s₀ s' H' QN QR E ev fr S' m' (by simpa using q')
 | false=>exact hb md A env l₀ R V s₀ s' H' QN QR E ev fr S' m' (by simpa using q')
theorem Zw4:SOk g sc nm (fun g=>wpSs g []) (execs []):=fun md A env l₀ R V s₀ s H QN QR E ev fr S m q=>by
 dsimp only [Zeg,Zaw] at q
 exact wpAny_execs_nil ⟨R,V,H,.refl,fr,S,m,q⟩
theorem Zu0 {st:S} {r:List S} {t:Stmt} {u:List Stmt} (h:SOk g sc nm (fun g=>wpS g st) (exec t)) (hr:SOk g sc nm (fun g=>wpSs g r) (execs u)):SOk g sc nm (fun g=>wpSs g (st::r)) (execs (t::u)) :=
 fun md A env l₀ R V s₀ s H QN QR E ev fr S m q=>by
 dsimp only [Zeg,Zaw] at q
 refine wpAny_execs_cons (wpAny_mono (h md A env l₀ R V s₀ s H _ QR E ev fr S m q) (fun f s' z=>?_) fun _ _ z=>z)
 cases f with
 | next =>
  obtain ⟨R',V',H',r',f',S',m',q'⟩:=z
  exact wpAny_mono (hr md A env l₀ R' V' s₀ s' H' QN QR E (ev.step r') f' S' m' q') (fun _ _ z=>z.trans r') fun _ _ z=>z.trans r'
 | ret v=>exact z
 | brk=>exact z
 | cont=>exact z
set_option tactic.hygienic true in
theorem Zre {M:Model} {A:Around} {env:Env} {R:RR} {H:Zaa} {a:Addr} {cl:String} {s:Shared} {E:Value→Shared→Prop} (hf:env.frame=some env.locals) (X:ExcSt g.c R H a cl (rawInt env.locals) s.heap)
  (q:∀ h',ExcSt g.c R H a cl (rawInt env.locals) h'→E (.ref a) { s with heap:=h' }):cameBackBy M A env E (.ref a) s:=by
 unfold cameBackBy
 have X':=X
 obtain ⟨H₁,⟨st,re,he,be,ob,kn⟩,_⟩:=X'
 cases ob with
 | traced h1 h2 h3 h4 h5 h6 h7 h8 h9 h10 h11 h12 h13 =>
  rename_i oe vs T oT ts a0
  refine wpAny_bind (wpAny_field h1 h3 h5 ?_)
  refine rl (if_neg (show ¬ ((Value.ref T==Value.none)=true) from by simp)) ?_
  refine rl hf ?_
  exact Ze1 X (by simp [rawInt]) fun h' X2=>q h' X2
theorem Zf6 {md:Bool} {A:Around} {env:Env} {l₀:List Env} {R:RR} {s₀ s:Shared} {E:String→VV→Zaa→Prop} {e:Value} {M:Model} (ev:Ev { g with md:=md } A R env l₀) (h:TX g env sc nm R s₀ E e s) :
  notedBy M A env (fun e s'=>cameBackBy M A env (TX g env sc nm R s₀ E) e s') e s:=by
 obtain ⟨a,cl,R',V',H',fl,rfl,r,fr,hfl,X,m,q⟩:=h
 refine Zm4 ev.aok.frames (r.stk ev.stk) X hfl fun h₁ X1=>?_
 refine Zre (g:=g) (s:={ s with heap:=h₁ }) (ev.stk env (.head _)).frame X1 fun h₂ X2=>?_
 exact ⟨a,cl,R',V',H',_,rfl,r,fr,.inr (.inr rfl),X2,m.trans ⟨_,_,rfl⟩,q⟩
theorem Zu4 {c:X} {b:List S} {t:Expr} {x:List Stmt} {pos:Pos} (hc:XMd g sc nm c t) (hb:SOk g sc nm (fun g=>wpSs g b) (execs x)):SOk g sc nm (fun g=>wpS g (.while c b)) (exec (.While t x [] pos)) :=
 fun md A env l₀ R V s₀ s H QN QR E ev fr S m q=>by
 dsimp only [Zbv,Zrp] at q
 obtain ⟨_,I,⟨n,hI⟩,hstep⟩:=q
 refine wpAny_While (codeAny_whileLoop (fun n s=>∃ R' V' H',RStep env R R'∧Frm R' env sc nm V'∧St g.c R' H' s.heap∧Sm s₀ s∧I n V' H') ?_ n ⟨R,V,H,.refl,fr,S,m,hI⟩)
 rintro n s₁ ⟨R',V',H',r,f',S',m',hi⟩
 have ev':=ev.step r
 refine wpAny_mono ((hc md A R' V' env env l₀ s₀ ev' f').2 H' s₁ (fun _ b₁ H''=>if b₁ then wpSs { g with md:=md } b (fun V2 H₂=>∃ m,m<n∧I m V2 H₂) QR E V' H'' else QN V' H'') (fun cl H=>E cl V' H) S' m' (hstep n V' H' hi)) (fun u s₂ z=>?_) fun _ _ z=>Zf6 ev (TX.trans r (Zfj f' z))
 obtain ⟨v,H₂,S₂,m₂,q₂,_⟩:=z
 cases u with
 | true =>
  dsimp only [if_true] at q₂ ⊢
  refine wpAny_mono (hb md A env l₀ R' V' s₀ s₂ H₂ _ QR E ev' f' S₂ m₂ q₂) (fun fl s₃ z=>?_) fun _ _ z=>Zf6 ev (TX.trans r z)
  cases fl with
  | next =>
   obtain ⟨R3,V3,H₃,r₃,f₃,S₃,m₃,k,hk,q₃⟩:=z
   exact ⟨k,hk,R3,V3,H₃,r.trans r₃,f₃,S₃,m₃,q₃⟩
  | ret v=>exact TF.trans r z
  | brk=>exact z.elim
  | cont=>exact z.elim
 | false =>
  dsimp only [Bool.false_eq_true,if_false] at q₂ ⊢
  exact wpAny_execs_nil ⟨R',V',H₂,r,f',S₂,m₂,q₂⟩
theorem tg_k {t:Tg} {tg:Expr} (ht:tgOk sc nm t tg=true):TgK tg:=by
 cases t with
 | var i=>exact Zg3 (m:=TgK) ht fun id p _ _=>.inl ⟨id,p,rfl⟩
 | tup is=>obtain ⟨es,k,p,rfl,_⟩:=Zom ht;exact .inr ⟨es,k,p,rfl⟩
inductive ForI (c:Cx) (env:Env) (sc:Scope) (nm:List Str) (R:RR) (s₀:Shared) (a:Addr) (av:AV) (l:Nat) (I:Nat→VV→Zaa→Prop) (n:Nat) (s:Shared):Prop
 | mk (k:Nat) (R':RR) (V':VV) (H':Zaa) (o':Obj) (hn:n=l - k) (hk:k≤l) (hR:R' a=some (.obj o')) (it:ItObj H' av k o') (r:RStep env R (Zcj R' a)) (f:Frm R' env sc nm V') (S:St c R' H' s.heap) (m:Sm s₀ s) (q:I k V' H'):ForI c env sc nm R s₀ a av l I n s
theorem Zme {R:RR} {a:Addr} {r:Res}:Zcj (rup R a r) a=Zcj R a:=by
 funext b
 by_cases z:b=a
 ·subst z;exact rl Zb7 (rl Zb7 rfl)
 ·exact rl (Za3 z) (rl (Za3 z) (rl (Zaf z) rfl))
theorem Zud {R:RR} {a b:Addr} {o:Obj} (h:R a=some (.obj o)) (hb:(∃ m,R b=some (.ns m))∨∃ x,R b=some (.cell x)):b≠a:=fun z=>by
 rw [z,h] at hb;rcases hb with ⟨_,hb⟩ | ⟨_,hb⟩<;>cases hb
theorem Frm.dropO {R:RR} {env:Env} {sc:Scope} {nm:List Str} {V:VV} {a:Addr} {o:Obj} (h:R a=some (.obj o)) (f:Frm R env sc nm V):Frm (Zcj R a) env sc nm V:=f.congr fun b hb=>Za3 (Zud h hb)
theorem Ev.dropO {g:Gx} {A:Around} {R R2:RR} {env:Env} {l₀:List Env} {a:Addr} (ev:Ev g A R env l₀) (r:RStep env R (Zcj R2 a)):Ev g A R2 env l₀:=⟨ev.aok,fun e he=>by
 have F:=ev.stk e he
 obtain ⟨mm,hm⟩:=F.ns
 obtain ⟨m',hm'⟩:=r.ns hm
 exact ⟨F.kind,F.frame,F.gen,F.co,F.blt,F.glob,m',Zev _ _ hm'⟩⟩
theorem TX.dropO {g:Gx} {env:Env} {sc:Scope} {nm:List Str} {R R2:RR} {s₀ s':Shared} {E:String→VV→Zaa→Prop} {e:Value} {a:Addr} {o₂:Obj} (h:R2 a=some (.obj o₂)) (r:RStep env R (Zcj R2 a)) (t:TX g env sc nm R2 s₀ E e s'):TX g env sc nm R s₀ E e s':=by
 obtain ⟨b,cl,R3,V3,H₃,fl,e1,r₃,f₃,hfl,X,m,q⟩:=t
 exact ⟨b,cl,Zcj R3 a,V3,H₃,fl,e1,r.trans r₃.drop,f₃.dropO (r₃.obj h),hfl,X.weaken Zev,m,q⟩
set_option tactic.hygienic true in
theorem Zzx {t:Tg} {it:X} {b:List S} {tg iter:Expr} {x:List Stmt} {pos:Pos} (C:g.c.Ok mg mb) (nd:nm.Nodup) (hn:Zig iter=true) (ht:tgOk sc nm t tg=true) (hi:XMd g sc nm it iter) (hb:SOk g sc nm (fun g=>wpSs g b) (execs x)) :
  SOk g sc nm (fun g=>wpS g (.for t it b)) (exec (.For tg iter x [] pos)):=fun md A env l₀ R V s₀ s H QN QR E ev fr S m q=>by
 dsimp only [Zay,Zbh,Zam,Zar,Za4,Zb3,Zbv,Zdg,Zcv] at q
 obtain ⟨hmd,q⟩:=q
 subst hmd
 ·refine wpAny_For (wpAny_mono ((hi true A R V env env l₀ s₀ ev fr).1 H s _ (fun cl H=>E cl V H) S m q) (fun u s₁ z=>?_) fun _ _ z=>Zfj fr z) (Zga hn)
  obtain ⟨av,H₁,hv,S₁,m₁,xs,hxs,I,hI,hstep⟩:=z
  refine Zp9 C hv S₁ hxs fun s₂ a o ha hHa ho S₂ m₂=>?_
  have hsv:∀ y,av = .str y→PyData.strOk y=true:=by rintro y rfl;cases hv;assumption
  have hna:∀ b,(∃ m,R b=some (.ns m))∨(∃ x,R b=some (.cell x))→b≠a:=by rintro b (⟨m,h⟩ | ⟨m,h⟩) rfl<;>(rw [ha] at h;contradiction)
  have ft:Frm (rup R a (.obj o)) env sc nm V:=fr.congr fun b hb=>Zaf (hna b hb)
  refine codeAny_forLoop_any (ForI g.c env sc nm R s₀ a av xs.length I) ?_ xs.length
   ⟨0,rup R a (.obj o),V,H₁,o,by lia,Nat.zero_le _,Zak,ho,fun b=>.inl ?_,ft,S₂,m₁.trans m₂,hI⟩
  ·rintro n s₃ ⟨k,R',V',H',o',hn',hk,hR',hit,hrs,f',S',m',hi'⟩
   obtain ⟨hsame,hend,hturn⟩:=hstep k V' H' hi'
   have hxs':=Zil hsame hxs
   rcases Nat.lt_or_ge k xs.length with hlt | hge
   ·obtain ⟨xv,hx⟩:∃ xv,xs[k]? = some xv:=⟨xs[k],by simp [hlt]⟩
    refine Zlw hxs' hx hit hR' S' hsv fun s₄ u4 o₂ hvx ho2 S₄ m4=>?_
    have r₄:RStep env R (Zcj (rup R' a (.obj o₂)) a):=by refine rl Zme ?_;exact hrs
    have f₄:Frm (rup R' a (.obj o₂)) env sc nm V':=f'.congr fun b hb=>Zaf (Zud hR' hb)
    have hst:=hturn xv hx
    refine Zmk (tg_k ht) ho2 ((S₄.res _ _ Zak).2) ?_
    refine Zzl C (ev.aok.hand rfl) nd ht hvx hst f₄ S₄ fun s5 R5 V5 hst r₅ f₅ S₅ m5=>?_
    have h₅:=r₅.obj (Zak (R:=R'))
    have rr:=r₄.trans r₅.drop
    refine wpAny_mono (hb true A env l₀ R5 _ s₀ s5 H' _ QR E (Ev.dropO (g:={ g with md:=true }) ev rr) f₅ S₅ ((m'.trans m4).trans m5) hst) (fun fl s6 z=>?_) fun _ _ z=>Zf6 ev (TX.dropO h₅ rr z)
    cases fl with
    | next =>
     obtain ⟨R6,V6,H₆,r₆,f₆,S₆,m6,q6⟩:=z
     refine ⟨xs.length - (k+1),by lia,k+1,R6,V6,H₆,o₂,rfl,by lia,r₆.obj h₅,?_,rr.trans r₆.drop,f₆,S₆,m6,q6⟩
     exact ho2.same2 hsame (hstep (k+1) V6 H₆ q6).1
    | ret v =>
     obtain ⟨R6,av6,H₆,r₆,hv6,S₆,m6,q6⟩:=z
     exact ⟨Zcj R6 a,av6,H₆,rr.trans r₆.drop,hv6,S₆.weaken Zev,m6,q6⟩
    | brk=>exact z.elim
    | cont=>exact z.elim
   ·obtain ⟨mm,hmm,_⟩:=f'.ns
    refine Zqb (ev.aok.hand rfl) hxs' (by simp;lia) hit hR' hmm S' fun s₄ S₄ m4=>?_
    exact wpAny_execs_nil ⟨Zcj R' a,V',H',hrs,f'.dropO hR',S₄,m'.trans m4,hend (by lia)⟩
  ·refine rl Zme ?_
   by_cases z:b=a
   ·subst z;exact rl Zb7 (rl ha rfl)
   ·exact rl (Za3 z) rfl
end
end Mine
end
section
end
section
namespace Mine
section
variable {g:Gx} {sc:Scope} {nm:List Str} {mg mb:Str→Option Value}
set_option tactic.hygienic true in
theorem DRs.store {es:List (Str×AV)} {kvs:List (Str×Value)} (h:DRs es kvs) {k:Str} {x:AV} {u:Value} (hk:PyData.strOk k=true) (hv:VR x u):DRs (putS es k x) (stored kvs k u):=by
 have ha:(Zbu es k).isSome=kvs.any (fun kv=>kv.1=k):=by
  induction h with
  | nil=>rfl
  | cons h1 h2 _ ih =>
   unfold Zbu at ih ⊢
   refine rl (List.find?_cons) (rl List.any_cons ?_)
   split
   ·rename_i z;simp at z;simp [z]
   ·rename_i z;simp at z;refine rl ih ?_;simp [z]
 unfold putS stored
 refine rl ha ?_
 split
 ·clear ha
  rename_i z;clear z
  induction h with
  | nil=>exact .nil
  | cons h1 h2 _ ih =>
   rename_i k' a v as vs _
   simp only [List.map_cons]
   by_cases z:k'=k
   ·simp only [z,if_true];exact .cons hk hv ih
   ·simp only [z,if_false];exact .cons h1 h2 ih
 ·clear ha
  rename_i z;clear z
  induction h with
  | nil=>exact .cons hk hv .nil
  | cons h1 h2 _ ih=>exact .cons h1 h2 ih
theorem Zo2 {A:Around} {R:RR} {H:Zaa} {s s₀:Shared} {E:Value→Shared→Prop} {p:Addr} {k:Str} {t:Tok} {ep:Nat} {es:List (Str×AV)} {x:AV} {u:Value} {Q:Unit→Shared→Prop} (hv:VR x u) (hk:PyData.strOk k=true) (e:H p=some (.dict ep es)) (hz:es.length≤sizeLine)
  (S:St g.c R H s.heap) (m:Sm s₀ s) (q:∀ s' ep',St g.c R (up H p (.dict ep' (putS es k x))) s'.heap→Sm s₀ s'→Q () s'):wpAny (model g.c.prog g.c.w) A (setItem (.ref p) (.str k t) u) Q E s:=by
 obtain ⟨kvs,hd,hr⟩:=Zbk S e
 refine wpAny_setItem_pairs (strKind_is _ _ k t) hd.dictOf (fun h' hd' hs=>?_) (by refine rl hr.length ?_;exact hz)
 obtain ⟨ep',hat⟩:=hd'.dictAt
 exact q _ ep' (S.setObj e (by intro _ _ z;contradiction) hs fun D=>⟨_,hat,hr.store hk hv⟩) (m.step _ _)
theorem Znd {v o:Expr} {n:Str} {p:Pos} {l:Nat} {env:Env}:swapsWith v (some (.Attribute o n p)) l env=pure false:=by
 cases v<;>rfl
theorem Zo1 {A:Around} {R:RR} {H:Zaa} {s s₀:Shared} {E:Value→Shared→Prop} {p:Addr} {j:Int} {t:Tok} {xs:List AV} {x:AV} {u:Value} {Q:Unit→Shared→Prop} (hv:VR x u) (e:H p=some (.list xs)) (h0:0≤j) (h1:j<xs.length) (hz:xs.length<2 ^ 62)
  (S:St g.c R H s.heap) (m:Sm s₀ s) (q:∀ s',St g.c R (up H p (.list (xs.set j.toNat x))) s'.heap→Sm s₀ s'→Q () s'):wpAny (model g.c.prog g.c.w) A (setItem (.ref p) (.int j t) u) Q E s:=by
 obtain ⟨vs,n,k1,k2,k3⟩:=Zbc S e
 have hl:=k2.length
 have hfin:∀ i:Nat,i=j.toNat→Q () { s with heap:=s.heap.update p (Obj.mapSeq (·.setIfInBounds i u)) }:=by
  rintro i rfl
  have hg:∃ n',(s.heap.update p (Obj.mapSeq (·.setIfInBounds j.toNat u))).get? p=some (listOf (vs.toArray.setIfInBounds j.toNat u) n'):=⟨_,Heap.get?_update_self (Obj.mapSeq (·.setIfInBounds j.toNat u)) k1 rfl⟩
  obtain ⟨n',hg⟩:=hg
  rw [List.setIfInBounds_toArray] at hg
  exact q _ (S.setObj (o':=.list (xs.set j.toNat x)) e (by intro _ _ z;contradiction) (Heap.SameBut.update ..) fun D=>⟨vs.set j.toNat u,n',hg,k2.set hv _⟩) (m.heap _)
 unfold setItem
 try with_reducible refine wpAny_holding ?_
 refine wpAny_bind (wpAny_sequenceKey k3.typeIs (by decide) ?_)
 refine wpAny_bind (wpAny_callSpecial?_slot (name:=Str.ofString "__setitem__") k3.typeIs PySem.F.slot_list_setitem
  (wpAny_call_entry PySem.F.slot_list_setitem k3.typeIs PySem.F.entry_list_setitem ?_ (PySem.F.args_list_setitem_3 _ _ _)))
 show wpAny _ _ (Builtin.List.listSubscript? (.int j t) >>= _) _ _ s
 refine wpAny_bind (wpAny_listSubscript_int (fitsIndex_of h0 (by lia)) ?_)
 obtain ⟨i,rfl⟩:=Int.eq_ofNat_of_zero_le h0
 have hj:i<vs.toArray.size:=by simp only [List.size_toArray];lia
 have hx':vs.toArray[i]? = some vs.toArray[i]:=Array.getElem?_eq_getElem hj
 show wpAny _ _ ((seqItemAt p i >>= fun r=>pure (r.map (i,·))) >>= _) _ _ s
 refine wpAny_bind (wpAny_bind (wpAny_seqItemAt k1 rfl (wpAny_pure ?_)))
 refine rl hx' ?_
 show wpAny _ _ (setSeqItemAt p i u >>= _) _ _ s
 refine wpAny_bind (wpAny_setSeqItemAt k1 rfl ?_)
 first
  | exact wpAny_bind (wpAny_pure (wpAny_pure ⟨.none,rfl,wpAny_pure (hfin i rfl)⟩))
  | exact wpAny_pure ⟨.none,rfl,wpAny_pure (hfin i rfl)⟩
set_option tactic.hygienic true in
theorem Zni {a i:X} {e:X} {o ix v:Expr} {p pos:Pos} (hns:Zhl ix=true) (ha:XMd g sc nm a o) (hi:XMd g sc nm i ix) (hx:XMd g sc nm e v):SOk g sc nm (fun g=>wpS g (.assign (.sub a i) e)) (exec (.Assign [.Subscript o ix p] v pos)) :=
 fun md A env l₀ R V s₀ s H QN QR E ev fr S m q=>by
 dsimp only [Zay,Zbh,Zam,Zar,Za4,Zb3,Zbv,Zdg,Zcv,tv,tsub,tattr,ttup] at q
 refine wpAny_Assign_Subscript (wpAny_mono ((hx md A R V env env l₀ s₀ ev fr).1 H s _ _ S m q) (fun u s₁ z=>?_) fun _ _ z=>Zfj fr z) Zor
 obtain ⟨av,H₁,hv,S₁,m₁,q₁⟩:=z
 refine wpAny_mono ((ha md A R V env env l₀ s₀ ev fr).1 H₁ s₁ _ _ S₁ m₁ q₁) (fun ov s₂ z=>?_) fun _ _ z=>Zfj fr z
 obtain ⟨ao,H₂,ho,S₂,m₂,q₂⟩:=z
 refine wpAny_mono ((hi md A R V env env l₀ s₀ ev fr).1 H₂ s₂ _ _ S₂ m₂ q₂) (fun iv s₃ z=>?_) fun _ _ z=>Zfj fr z
 obtain ⟨ai,H₃,hiv,S₃,m₃,q₃⟩:=z
 split at q₃
 ·cases ho
  cases hiv with
  | str k t hk =>
  split at q₃
  ·rename_i ep es e
   exact Zo2 hv hk e q₃.1 S₃ m₃ fun s' ep' S' m'=>⟨R,V,_,.refl,fr,S',m',q₃.2 ep'⟩
  ·exact q₃.elim
 ·cases ho
  cases hiv with
  | int j t =>
  split at q₃
  ·rename_i xs e
   exact Zo1 hv e q₃.1 q₃.2.1 q₃.2.2.1 S₃ m₃ fun s' S' m'=>⟨R,V,_,.refl,fr,S',m',q₃.2.2.2⟩
  ·exact q₃.elim
 ·exact q₃.elim
noncomputable def putR (n:String) (a:AV):List (String×AV)→List (String×AV)
 | []=>[(n,a)]
 | (k,b)::r=>if k=n then (k,a)::r else (k,b)::putR n a r
theorem Zxi {n:String} {a:AV} {es:List (String×AV)} (nd:(es.map (·.1)).Nodup):putA es n a=putR n a es:=by
 induction es with
 | nil=>rfl
 | cons kb r ih =>
  obtain ⟨k,b⟩:=kb
  rw [List.map_cons,List.nodup_cons] at nd
  replace ih:=ih nd.2
  unfold putA at *
  rw [putR]
  by_cases z:k=n
  ·have h2:(Zeb ((k,b)::r) n).isSome=true:=by simp [Zeb,z]
   rw [h2,if_pos rfl,if_pos z,List.map_cons,if_pos z]
   congr 1
   refine (List.map_congr_left fun e he=>?_).trans (List.map_id r)
   have hne:e.1≠n:=fun w=>nd.1 (by show k∈_;rw [z,← w];exact List.mem_map.mpr ⟨e,he,rfl⟩)
   rw [if_neg hne];rfl
  ·have h2:(Zeb ((k,b)::r) n).isSome=(Zeb r n).isSome:=by simp [Zeb,z]
   rw [h2,if_neg z,← ih]
   split
   ·exact rl List.map_cons (rl (if_neg z) rfl)
   ·rfl
theorem Zrh {n:String} {hsh:Int} {t:Tok} {a:AV} {v:Value} (hv:VR a v) {es:List (String×AV)} {ents:List DictEntry} (h:Zcf es ents):Zcf (putR n a es) (putL (Str.ofString n) hsh (.str (Str.ofString n) t) v ents):=by
 induction es generalizing ents with
 | nil=>cases ents with
  | nil=>exact ⟨⟨t,rfl⟩,hv,trivial⟩
  | cons=>exact h.elim
 | cons kb r ih =>
  cases ents with
  | nil=>exact h.elim
  | cons e q =>
  obtain ⟨k,b⟩:=kb
  obtain ⟨⟨t',hk⟩,hb,hr⟩:=h
  replace ih:=ih hr
  unfold putR putL
  by_cases z:k=n
  ·have h1:e.key.isStr (Str.ofString n)=true:=by refine rl hk (rl z ?_);simp [Value.isStr]
   refine rl h1 (rl (if_pos rfl) (rl (if_pos z) ?_))
   exact ⟨⟨t',hk⟩,hv,hr⟩
  ·have h1:e.key.isStr (Str.ofString n)=false:=by
    refine rl hk ?_
    show (Str.ofString k==Str.ofString n)=false
    rw [beq_eq_false_iff_ne]
    exact fun w=>z (Zgh w)
   rw [h1,if_neg Bool.false_ne_true,if_neg z]
   exact ⟨⟨t',hk⟩,hb,ih⟩
theorem Zk3:∀ {es:List (String×AV)} {ents:List DictEntry},Zcf es ents→ents.length=es.length
 | [],[],_=>rfl
 | _::_,_::_,h=>congrArg Nat.succ (Zk3 h.2.2)
 | [],_::_,h=>h.elim
 | _::_,[],h=>h.elim
theorem Zmg {n:Str} {hsh:Int} {k v:Value}:∀ {ents:List DictEntry},(putL n hsh k v ents).length≤ents.length+1
 | []=>Nat.le_refl _
 | e::r=>by
  unfold putL
  split
  ·exact Nat.le_succ _
  ·exact Nat.succ_le_succ Zmg
set_option tactic.hygienic true in
theorem Zo8 {es:List (String×AV)} {n:String} {a:AV} (nd:(es.map (·.1)).Nodup):((putA es n a).map (·.1)).Nodup:=by
 unfold putA
 split
 ·rw [List.map_map,show ((fun x:String×AV=>x.1) ∘ fun e=>if e.1=n then (e.1,a) else e)=(·.1) from by funext e;simp only [Function.comp];split<;>rfl]
  exact nd
 ·rename_i h
  rw [List.map_append,List.nodup_append]
  refine ⟨nd,by simp,fun x hx y hy=>?_⟩
  simp only [List.map_cons,List.map_nil,List.mem_singleton] at hy
  subst hy
  rintro rfl
  apply h
  obtain ⟨e,he,rfl⟩:=List.mem_map.mp hx
  unfold Zeb
  rw [Option.isSome_map,List.find?_isSome]
  exact ⟨e,he,by simp⟩
theorem Zo3 {A:Around} {R:RR} {H:Zaa} {s s₀:Shared} {E:Value→Shared→Prop} {p:Addr} {n cl:String} {es:List (String×AV)} {x:AV} {u:Value} {Q:Unit→Shared→Prop} (C:g.c.Ok mg mb) (PO:PgOk g.c) (hv:VR x u) (e:H p=some (.inst cl es)) (hat:g.c.P.attrs.contains (cl,n)=true) (hz:es.length≤100)
  (S:St g.c R H s.heap) (m:Sm s₀ s) (q:∀ s',St g.c R (up H p (.inst cl (putA es n x))) s'.heap→Sm s₀ s'→Q () s'):wpAny (model g.c.prog g.c.w) A (setAttr (.ref p) (Str.ofString n) u) Q E s:=by
 obtain ⟨c1,c2,c3,c4,c5,c6⟩:=PO.attr cl n hat
 obtain ⟨d,ents,k,x1,x2,x3,x4,x5⟩:=S.setAttr e
 have X:=C.kin.keeps S.stays
 have I:InstAt s.heap p (instObj (g.c.ca cl) d) (g.c.ca cl) (some (dictOf ents k)):=⟨x1,rfl,rfl,x2⟩
 obtain ⟨f1,f2⟩:=Zgc (n:=n) x3
 have hlen:=Zk3 x3
 obtain ⟨cd,hc,hd'⟩:=any_some c2
 refine set_plain X I c4 ?_
 refine osa_open X (⟨x1,rfl,rfl,x2⟩:InstAt s.heap p (instObj (g.c.ca cl) d) (g.c.ca cl) (some (dictOf ents k))) c5 c6 fun b=>?_
 refine wpAny_bind (wpAny_pure (wpAny_bind (wpAny_bind (wpAny_loadPart x1 (wpAny_bind (Looks.here (s:={ s with toks:=s.toks+1 }) (looks_clsIn X hc) ?_))))))
 rw [hd']
 refine wpAny_pure (a:=some d) (wpAny_bind (wpAny_pure (wpAny_bind ?_)))
 unfold nsSet
 refine wpAny_bind (wpAny_bind (wpAny_askSetting (wpAny_pure (wpAny_bind (wpAny_mkText (wpAny_bind (wpAny_loadPart x2 ?_)))))))
 dsimp only
 have hc':(!ents.toArray.any (·.key.isStr (Str.ofString n))&&ents.toArray.any (·.refKey))=false:=by
  have h1:ents.toArray.any (·.refKey)=ents.any (·.refKey):=by exact rl Array.any_toList.symm rfl
  exact rl (h1 ..) (rl (f2 ..) (rl (Bool.and_false ..) rfl))
 rw [aRefKeyMayBeTheName_at,hc']
 refine wpAny_updatePart x2 ?_
 have hg:∀ (tk:Tok),(s.heap.update d (Obj.putName (Str.ofString n) (PyData.keyHash g.c.w.params (Str.ofString n)) (.str (Str.ofString n) tk) u)).get? d=some (dictOf (putL (Str.ofString n) (PyData.keyHash g.c.w.params (Str.ofString n)) (.str (Str.ofString n) tk) u ents) (putN (Str.ofString n) ents k)):=fun tk=>by
  refine (Heap.get?_update_self _ x2 ?_).trans ?_
  ·rw [putName_dict];rfl
  ·exact rl (putName_dict ..) rfl
 refine wpAny_bind (wpAny_lookBehind (hg _) (pastItsLine_dict (by rw [List.size_toArray,sizeLine_eq];have:=Zmg (n:=Str.ofString n) (hsh:=PyData.keyHash g.c.w.params (Str.ofString n)) (k:=.str (Str.ofString n) (s.toks+1)) (v:=u) (ents:=ents);lia)) ?_)
 refine wpAny_pure (q _ (x5 _ _ _ _ (Heap.SameBut.update ..) (hg _) ?_ (Zo8 x4)) (m.step _ _))
 rw [Zxi x4]
 exact Zrh hv x3
set_option tactic.hygienic true in
theorem Zlb {a:X} {n:String} {e:X} {o v:Expr} {p pos:Pos} (C:g.c.Ok mg mb) (PO:PgOk g.c) (ha:XMd g sc nm a o) (hx:XMd g sc nm e v):SOk g sc nm (fun g=>wpS g (.assign (.attr a n) e)) (exec (.Assign [.Attribute o (Str.ofString n) p] v pos)) :=
 fun md A env l₀ R V s₀ s H QN QR E ev fr S m q=>by
 dsimp only [Zay,Zbh,Zam,Zar,Za4,Zb3,Zbv,Zdg,Zcv,tv,tsub,tattr,ttup] at q
 refine plainObj_wpAny_Assign_Attribute (wpAny_mono ((hx md A R V env env l₀ s₀ ev fr).1 H s _ _ S m q) (fun u s₁ z=>?_) fun _ _ z=>Zfj fr z) Znd
 obtain ⟨av,H₁,hv,S₁,m₁,q₁⟩:=z
 refine wpAny_mono ((ha md A R V env env l₀ s₀ ev fr).1 H₁ s₁ _ _ S₁ m₁ q₁) (fun ov s₂ z=>?_) fun _ _ z=>Zfj fr z
 obtain ⟨ao,H₂,ho,S₂,m₂,q₂⟩:=z
 split at q₂
 ·cases ho
  split at q₂
  ·rename_i cl es e
   exact Zo3 (g:={ g with md:=md }) C PO hv e q₂.1 q₂.2.1 S₂ m₂ fun s' S' m'=>⟨R,V,_,.refl,fr,S',m',q₂.2.2⟩
  ·exact q₂.elim
 ·exact q₂.elim
theorem Zu6 {cl:String} {msg:Str} {fe:Expr} {k:Nat} {mp cp pos:Pos} (C:g.c.Ok mg mb) (PO:PgOk g.c) (hn:Zby sc cl fe=true) (hx:(g.c.P.excs.lookup cl).isSome=true):SOk g sc nm (fun g=>wpS g (.raise cl msg)) (exec (.Raise (some (.Call fe [.Constant (.str msg) k mp] [] cp)) none pos)) :=
 fun md A env l₀ R V s₀ s H QN QR E ev fr S m q=>by
 dsimp only [Zay,Zbh,Zam,Zar,Za4,Zb3,Zbv,Zdg,Zcv] at q
 obtain ⟨hmd,q⟩:=q
 subst hmd
 obtain ⟨r1,r2,_⟩:=PO.excR cl hx
 obtain ⟨pp,loose,T⟩:=C.top
 obtain ⟨tl,N,nmm,qn,bs,hdct,sn,sub,ab,col,dd,k0,k1,k2,k3,k5,mN,hC,hN,hni,TL⟩:=((own_of_in C.kin T r1 r2).keeps S.stays).obj
 have FB:=PySem.F.excBase_ValueError
 obtain ⟨id,p,rfl⟩:=Zea hn
 refine wpAny_Raise_call_subT (C:=g.c.ca cl) (nm:=nmm) (q:=qn) (N:=N) (bs:=bs) (bm:=tl) (hdct:=hdct) (sn:=sn) (sub:=sub) (ab:=ab) (col:=col) (dd:=dd) (k0:=k0) (k1:=k1) (k2:=k2) (k3:=k3) (k5:=k5)
  FB (mN:=mN) (TL.hasType FB.hasBase) (ev.aok.hand rfl) rfl hni (Zip C fr S hn r1 ⟨rfl,?_⟩)
 refine evalArgs_plain (spliced_cons (wpAny_Constant_str (k:=k) (pos:=mp) (spliced_nil ⟨rfl,by show 1≤sizeLine;decide,hC,hN,TL,fun h' e hm=>?_⟩)))
 obtain ⟨t,ht,_⟩:=hm.there
 obtain ⟨mm,hmm,_⟩:=fr.ns
 obtain ⟨H₁,S,rl⟩:=S
 have S':St1 g.c R H₁ h':=by
  refine S.noted (ls:=[]) (fun a ha=>by contradiction) (fun b o z _=>hm.keeps b o z) (fun b o z _=>⟨o.slots,hm.keeps b o z⟩) ?_
  obtain ⟨oL,es,ep,w,_⟩:=(S.res _ _ hmm).2
  have h1:=leN (S.res _ _ hmm).1
  have h2:=lts (hm.keeps _ _ w)
  exact Nat.le_of_lt (Nat.lt_of_le_of_lt h1 h2)
 refine ⟨e,cl,R,V,H,.ellipsis,rfl,.refl,fr,.inl rfl,⟨H₁,⟨S',?_,?_,?_,.fresh ht,hx⟩,rl⟩,m.step _ _,q⟩
 ·cases z:R e with
  | none=>rfl
  | some r=>obtain ⟨ob,w⟩:=(S.res _ _ z).2.there;have:=hm.new;rw [show s.heap.get? e=some ob from w] at this;contradiction
 ·cases z:H₁ e with
  | none=>rfl
  | some r=>obtain ⟨D,s4⟩:=S.rep;obtain ⟨ob,w⟩:=(s4.rep _ _ z).there;have:=hm.new;rw [show s.heap.get? e=some ob from w] at this;contradiction
 ·cases z:g.c.base.get? e with
  | none=>rfl
  | some r=>have w:=S.stays _ _ z;have:=hm.new;rw [show s.heap.get? e=some r from w] at this;contradiction
set_option tactic.hygienic true in
theorem Zqt {M:Model} {A:Around} {E:Value→Shared→Prop} {s:Shared} {K:Frag} {e C D:Addr} {oe:Obj} {r:Bool} {Q:Bool→Shared→Prop} (X:K.In s.heap) (he:s.heap.get? e=some oe) (hc:oe.cls = .ref C)
  (h1:instIn K (.ref D) (.type "tuple")=some false) (h2:subIn K (.ref D) (.type "BaseException")=some true) (h3:(clsIn K D).isSome=true) (h4:subIn K (.ref C) (.ref D)=some r) (q:Q r s) :
  wpAny M A (excMatches (.ref e) (.ref D)) Q E s:=by
 obtain ⟨hh,gg,d,tt,os⟩:=s
 have L1:=looks_instIn (M:=M) X h1
 have L2:=looks_subIn (M:=M) X h2
 have L4:=looks_subIn (M:=M) X h4
 have LT:Looks M hh (typeOf (.ref e)) (.ref C):=by refine rl hc.symm ?_;exact (Looks.ld he).andThen .now
 obtain ⟨cd,h3⟩:=Option.isSome_iff_exists.mp h3
 unfold excMatches
 refine wpAny_bind (L1.at ?_)
 dsimp only [Bool.false_eq_true,if_false]
 refine wpAny_bind (wpAny_pure (wpAny_bind ?_))
 have L5:Looks M hh (isExcClass (.ref D)) true:=by
  unfold clsIn at h3
  split at h3
  ·rename_i ho
   have Lt:Looks M hh (isType (.ref D)) true:=(Looks.ld (part:=none) (X _ _ ho)).andThen .now
   intro A' Q' E' s' k' q'
   unfold isExcClass
   refine wpAny_bind (Lt A' _ E' s' k' ?_)
   refine rl (if_pos rfl) ?_
   exact L2 A' _ E' s' k' q'
  ·contradiction
 refine rl (List.forIn_cons ..) ?_
 refine wpAny_bind (wpAny_bind (L5.at ?_))
 simp only [Bool.not_true,Bool.false_eq_true,if_false]
 refine wpAny_pure ?_
 dsimp only
 refine rl List.forIn_nil ?_
 refine wpAny_pure (wpAny_bind (LT.at (wpAny_bind ?_)))
 refine rl (List.forIn_cons ..) ?_
 refine wpAny_bind (wpAny_bind (L4.at ?_))
 cases r with
 | true =>
  dsimp only [if_true]
  exact wpAny_pure (wpAny_pure (wpAny_pure q))
 | false =>
  dsimp only [Bool.false_eq_true,if_false]
  refine wpAny_pure ?_
  dsimp only
  refine rl List.forIn_nil ?_
  exact wpAny_pure (wpAny_pure q)
end
end Mine
end
section
namespace Mine
section
variable {g:Gx} {sc:Scope} {nm:List Str} {mg mb:Str→Option Value}
noncomputable def HdOk (g:Gx) (sc:Scope) (nm:List Str):Hd→ExceptHandler→Prop
 | .mk cl nmi b,.ExceptHandler (some t) name (x::body) _=>Zby sc cl t=true∧(g.c.P.excs.lookup cl).isSome=true∧SOk g sc nm (fun g=>wpSs g b) (execs (x::body))∧nmOk sc nm nmi name=true
 | _,_=>False
inductive Zk6 (P:Hd→ExceptHandler→Prop):List Hd→List ExceptHandler→Prop
 | nil:Zk6 P [] []
 | cons {x e xs es}:P x e→Zk6 P xs es→Zk6 P (x::xs) (e::es)
theorem Zqy {A:Around} {R:RR} {env:Env} {l₀:List Env} {e:Value} (ev:Ev { g with md:=true } A R env l₀):Ev { g with md:=false } (A.mark (some e)) R env l₀ :=
 ⟨⟨ev.aok.frames,ev.aok.depth,ev.aok.units,fun h=>by contradiction⟩,ev.stk⟩
theorem Zl8 {env:Env} {R:RR} {s₀ s:Shared} {e:Value} (h:TX g env sc nm R s₀ (fun _ _ _=>False) e s) {P:Prop}:P:=by
 obtain ⟨_,_,_,_,_,_,_,_,_,_,_,_,q⟩:=h
 exact q.elim
theorem Zkf {M:Model} {A:Around} {E:Value→Shared→Prop} {s:Shared} {R:RR} {H:Zaa} {env:Env} {n:Str} {pos:Pos} {m:Str→Option Value} {Q:Unit→Shared→Prop} (hl:env.kindOf n=some .local) (hk:env.scope.kind = .function) (hm:R env.locals=some (.ns m)) (S:St g.c R H s.heap)
  (q:∀ s' v,St g.c (rup R env.locals (.ns fun x=>if x=n then v else m x)) H s'.heap→Sm s s'→Q () s'):wpAny M A (do bindName env n .none;unbindBehindTheSuite env n pos) Q E s :=
 wpAny_nameGoes_keeps hl (S.res _ _ hm).2 (by refine rl hk ?_;rfl) fun h' v hn hs=>q _ v (S.setRes (r':=.ns _) hm hs hn) ⟨_,_,rfl⟩
theorem Zho {env:Env} {R:RR} {m m':Str→Option Value} (hm:R env.locals=some (.ns m)):RStep env R (rup R env.locals (.ns m')):=fun b=>by
 by_cases z:b=env.locals
 ·subst z;exact .inr (.inl ⟨rfl,_,_,hm,Zak⟩)
 ·exact .inl (Zaf z)
theorem Z0h (C:g.c.Ok mg mb) (PO:PgOk g.c) (nd:nm.Nodup) {hs:List Hd} {es:List ExceptHandler} (hh:Zk6 (HdOk g sc nm) hs es):∀ (A:Around) (env:Env) (l₀:List Env) (R:RR) (V:VV) (s₀ s:Shared) (H:Zaa) (e:Addr) (cl:String) (QN:VV→Zaa→Prop) (QR:AV→Zaa→Prop) (E:String→VV→Zaa→Prop),
  Ev { g with md:=true } A R env l₀→Frm R env sc nm V→ExcSt g.c R H e cl .none s.heap→Sm s₀ s→wpHs { g with md:=true } hs cl QN QR E V H →
  wpAny (model g.c.prog g.c.w) A (handleBy (.ref e) env es) (TF g env sc nm R s₀ QN QR) (TX g env sc nm R s₀ E) s:=by
 induction hh with
 | nil=>exact fun A env l₀ R V s₀ s H e cl QN QR E ev fr X m q=>q.elim
 | @cons x eh _ _ h r ih =>
  intro A env l₀ R V s₀ s H e cl QN QR E ev fr X m q
  obtain ⟨c,nmi,b⟩:=x
  obtain ⟨ty,name,body,pos⟩:=eh
  rw [Zfz,Zqn] at q
  cases ty with
  | none=>exact h.elim
  | some t =>
  cases body with
  | nil=>exact h.elim
  | cons b0 body =>
  obtain ⟨h1,h2,h3,h4⟩:=h
  obtain ⟨r1,r2,r3,r4,r5,_⟩:=PO.excR c h2
  obtain ⟨o,vs,o1,o2,o3⟩:=X.obj
  refine wpAny_handleBy_cons (codeAny_handlers_test (Zip C fr X.st h1 r1 ?_)) (by intro z;contradiction)
  refine Zqt (C.kin.keeps X.st.stays) o1 o2 r3 r4 r5 (PO.excC cl c X.kn h2) ?_
  cases hsub:Zd3 g.c.P cl c with
  | false =>
   simp only [hsub,Bool.false_eq_true,if_false] at q ⊢
   exact ih A env l₀ R V s₀ s H e cl QN QR E ev fr X m q
  | true =>
   simp only [hsub,if_true] at q ⊢
   cases nmi with
   | none =>
    cases name with
    | some=>exact Bool.noConfusion h4
    | none =>
    refine codeAny_handlers_suite (Ze1 X (by simp) fun h' X'=>?_)
    refine wpAny_mono (h3 false (A.mark (some (.ref e))) env l₀ R V s₀ { s with heap:=h' } H QN QR (fun _ _ _=>False) (Zqy ev) fr X'.st (m.heap h') q) (fun f s' z=>z) fun _ _ z=>Zl8 z
   | some i =>
    cases name with
    | none=>exact Bool.noConfusion h4
    | some n =>
    have h5:=eq_of_beq (and2 h4).1;have h6:=eq_of_beq (and2 h4).2
    obtain ⟨hlt,q⟩:=q e X.he
    refine codeAny_handlers_suite_as (Ze1 X (by simp) fun h' X'=>?_)
    refine Zf3 fr nd h5 (by unfold Zdv;exact rl h6 rfl) (.ref e) X'.caught fun s₂ R2 r₂ f₂ S₂ m₂=>?_
    refine wpAny_mono (h3 false (A.mark (some (.ref e))) env l₀ R2 _ s₀ s₂ _ _ QR (fun _ _ _=>False) (Zqy (ev.step r₂)) f₂ S₂ ((m.heap h').trans m₂) q) (fun f s₃ z=>?_) fun _ _ z=>Zl8 z
    have hl:=fr.lco n h6
    cases f with
    | next =>
     obtain ⟨R3,V3,H₃,r₃,f₃,S₃,m₃,q₃⟩:=z
     obtain ⟨mm,hmm,_⟩:=f₃.ns
     exact Zkf hl fr.kind hmm S₃ fun s₄ v S₄ m4=>⟨_,_,H₃,(r₂.trans r₃).trans (Zho hmm),f₃.local' nd h5 hl hmm .none,S₄,m₃.trans m4,q₃⟩
    | ret v =>
     obtain ⟨R3,av,H₃,r₃,hv,S₃,m₃,q₃⟩:=z
     obtain ⟨mm,hmm,_⟩:=f₂.ns
     obtain ⟨mm',hmm'⟩:=r₃.ns hmm
     exact Zkf hl fr.kind hmm' S₃ fun s₄ w S₄ m4=>⟨_,av,H₃,(r₂.trans r₃).trans (Zho hmm'),hv,S₄,m₃.trans m4,q₃⟩
    | brk=>exact z.elim
    | cont=>exact z.elim
theorem Zzp {b:List S} {hs:List Hd} {x:List Stmt} {h₀:ExceptHandler} {es:List ExceptHandler} {pos:Pos} (C:g.c.Ok mg mb) (PO:PgOk g.c) (nd:nm.Nodup) (hb:SOk g sc nm (fun g=>wpSs g b) (execs x)) (hh:Zk6 (HdOk g sc nm) hs (h₀::es)) :
  SOk g sc nm (fun g=>wpS g (.try b hs)) (exec (.Try x (h₀::es) [] [] pos)):=fun md A env l₀ R V s₀ s H QN QR E ev fr S m q=>by
 dsimp only [Zay,Zbh,Zam,Zar,Za4,Zb3,Zbv,Zdg,Zcv] at q
 obtain ⟨hmd,q⟩:=q
 subst hmd
 refine wpAny_Try_except (wpAny_mono (hb true A env l₀ R V s₀ s H _ QR _ ev fr S m q) (fun f s₁ z=>?_) fun e s₁ z=>?_)
 ·cases f with
  | next=>exact wpAny_execs_nil z
  | ret v=>exact z
  | brk=>exact z
  | cont=>exact z
 ·obtain ⟨a,cl,R',V',H',fl,rfl,r,f',hfl,X,m',q'⟩:=z
  refine Zm4 ev.aok.frames (r.stk ev.stk) X hfl fun h₁ X1=>?_
  refine Ze1 (s:={ s₁ with heap:=h₁ }) X1 (by simp [rawInt]) fun h₂ X2=>?_
  exact wpAny_mono (Z0h C PO nd hh A env l₀ R' V' s₀ { s₁ with heap:=h₂ } H' a cl QN QR E (ev.step r) f' X2 (m'.heap h₂) q') (fun _ _ z=>z.trans r) fun _ _ z=>z.trans r
theorem Zto {e:X} {m:X→Prop} (h:Zqf e=true) (f:∀ x k tup it c,m (.comp x k tup it c)):m e:=X.comp.elim (motive_1:=m) e (eq_of_beq h) f
theorem Zr0 {msg:Str} {es:List Expr} {m:List Expr→Prop} (h:Zx2 msg es=true) (f:∀ k p,m [.Constant (.str msg) k p]):m es :=
 Zfb h fun e h=>Zhk (m:=fun e=>m [e]) h fun _ k p h=>eq_of_beq (and2 h).1▸f k p
variable (C:g.c.Ok mg mb) (PO:PgOk g.c) (nd:nm.Nodup)
include C PO in
theorem xmd {e:X} {v:Expr} (h:mtX g.c.P true sc nm e v=true):XMd g sc nm e v:=fun md=>sX (g:={ g with md:=md }) C PO e v true sc nm h
include C PO nd in
theorem sAs {t:T} {e:X} {tg v:Expr} {pos:Pos} (h1:(Zfc v||(isLC v&&Zqf e))=true) (h0:(Zkd v||Zlq t)=true) (h2:mtT g.c.P sc nm t tg=true) (h3:mtX g.c.P true sc nm e v=true) :
  SOk g sc nm (fun g=>wpS g (.assign t e)) (exec (.Assign [tg] v pos)):=by
 cases t with
 | var i =>
  cases hc:Zfc v with
  | true=>exact Zng nd hc h2 (xmd C PO h3)
  | false =>
   rw [hc,Bool.false_or] at h1
   clear h0
   revert h1 h3
   refine fun h1=>Zto (m:=fun e=>mtX g.c.P true sc nm e v=true→SOk g sc nm (fun g=>wpS g (.assign (.var i) e)) (exec (.Assign [tg] v pos))) (and2 h1).2 fun x k tup it cc h3=>?_
   refine Zki (m:=fun v=>XMd g sc nm (.comp x k tup it cc) v→SOk g sc nm (fun g=>wpS g (.assign (.var i) (.comp x k tup it cc))) (exec (.Assign [tg] v pos))) h3 (fun elt ctg iter ifs csc ts p htg o=>?_) (xmd C PO h3)
   refine rl o.len ?_
   exact fun hx=>Zla C htg nd h2 o.sc o.set (xmd C PO o.it) (fun md=>sX (g:={ g with md:=md }) C PO x elt false _ _ o.x) (fun md=>sC (g:={ g with md:=md }) C PO cc ifs _ _ o.c) hx
 | sub a i=>exact Zmo (m:=fun tg=>SOk g sc nm (fun g=>wpS g (.assign (.sub a i) e)) (exec (.Assign [tg] v pos))) h2 fun _ _ _ k1 k2 k3=>Zni k1 (xmd C PO k2) (xmd C PO k3) (xmd C PO h3)
 | tup is =>
  have hn:Zkd v=true:=by rw [show Zlq (.tup is)=false from rfl,Bool.or_false] at h0;exact h0
  exact Znh C nd hn h2 (xmd C PO h3)
 | attr a n=>exact Zez (m:=fun tg=>SOk g sc nm (fun g=>wpS g (.assign (.attr a n) e)) (exec (.Assign [tg] v pos))) h2 fun o _ p k=>eq_of_beq (and2 k).1▸Zlb C PO (xmd C PO (and2 k).2) (xmd C PO h3)
include C PO nd in
mutual
theorem sS:∀ (st:S) (t:Stmt),mtS g.c.P sc nm st t=true→SOk g sc nm (fun g=>wpS g st) (exec t)
 | .assign t e,st,h=>Zpt (m:=fun st=>SOk g sc nm (fun g=>wpS g (.assign t e)) (exec st)) h fun ts v p h=>Zfb (m:=fun ts=>SOk g sc nm (fun g=>wpS g (.assign t e)) (exec (.Assign ts v p))) h fun tg h =>
  have h3:=and2 h;have h2:=and2 h3.1;have h1:=and2 h2.1;sAs C PO nd h1.1 h1.2 h2.2 h3.2
 | .expr e,st,h=>Znt (m:=fun st=>SOk g sc nm (fun g=>wpS g (.expr e)) (exec st)) h fun v p h=>Zxd (and2 h).1 (xmd C PO (and2 h).2)
 | .ret e,st,h=>Zpn (m:=fun st=>SOk g sc nm (fun g=>wpS g (.ret e)) (exec st)) h fun v p h=>Zey (m:=fun v=>SOk g sc nm (fun g=>wpS g (.ret e)) (exec (.Return v p))) h fun v h=>Zzt (xmd C PO h)
 | .ite c a b,st,h=>Zpp (m:=fun st=>SOk g sc nm (fun g=>wpS g (.ite c a b)) (exec st)) h fun t x y p h=>have h2:=and2 h;have h1:=and2 h2.1;s_if (xmd C PO h1.1) (sSs a x h1.2) (sSs b y h2.2)
 | .while c b,st,h=>Zll (m:=fun st=>SOk g sc nm (fun g=>wpS g (.while c b)) (exec st)) h fun t x o p h=>have h1:=and2 (and2 h).2;Zb4 (m:=fun o=>SOk g sc nm (fun g=>wpS g (.while c b)) (exec (.While t x o p))) (and2 h).1 (Zu4 (xmd C PO h1.1) (sSs b x h1.2))
 | .for t it b,st,h=>Zpq (m:=fun st=>SOk g sc nm (fun g=>wpS g (.for t it b)) (exec st)) h fun tg i x o p h=>have h3:=and2 (and2 h).2;have h2:=and2 h3.1;have h1:=and2 h2.1
  Zb4 (m:=fun o=>SOk g sc nm (fun g=>wpS g (.for t it b)) (exec (.For tg i x o p))) (and2 h).1 (Zzx C nd h1.1 h1.2 (xmd C PO h2.2) (sSs b x h3.2))
 | .raise cl msg,st,h=>Zlo (m:=fun st=>SOk g sc nm (fun g=>wpS g (.raise cl msg)) (exec st)) h fun c z p h=>match z,h with
  | some _,h=>Bool.noConfusion h
  | none,h=>Zey (m:=fun c=>SOk g sc nm (fun g=>wpS g (.raise cl msg)) (exec (.Raise c none p))) h fun c h=>Zfv (m:=fun c=>SOk g sc nm (fun g=>wpS g (.raise cl msg)) (exec (.Raise (some c) none p))) h fun fe as q h1 h2 h3 =>
   Zr0 (m:=fun as=>SOk g sc nm (fun g=>wpS g (.raise cl msg)) (exec (.Raise (some (.Call fe as [] q)) none p))) h3 fun _ _=>Zu6 C PO h1 h2
 | .try b hs,st,h=>Zpk (m:=fun st=>SOk g sc nm (fun g=>wpS g (.try b hs)) (exec st)) h fun x hs' o z p h=>have h1:=and2 (and2 h).2;have h0:=and2 (and2 h).1
  Zb4 (m:=fun o=>SOk g sc nm (fun g=>wpS g (.try b hs)) (exec (.Try x hs' o z p))) h0.1 (Zb4 (m:=fun z=>SOk g sc nm (fun g=>wpS g (.try b hs)) (exec (.Try x hs' [] z p))) h0.2
   (Zdk (m:=fun hs'=>SOk g sc nm (fun g=>wpS g (.try b hs)) (exec (.Try x hs' [] [] p))) h1.2 fun h₀ r h=>Zzp C PO nd (sSs b x h1.1) (sHs hs (h₀::r) h)))
 | .pass,st,h=>Znq (m:=fun st=>SOk g sc nm (fun g=>wpS g .pass) (exec st)) h fun _ _=>Zxb
theorem sSs:∀ (l:List S) (ts:List Stmt),mtSs g.c.P sc nm l ts=true→SOk g sc nm (fun g=>wpSs g l) (execs ts)
 | [],ts,h=>Zb4 (m:=fun ts=>SOk g sc nm (fun g=>wpSs g []) (execs ts)) h Zw4
 | st::r,ts,h=>Zdk (m:=fun ts=>SOk g sc nm (fun g=>wpSs g (st::r)) (execs ts)) h fun e q h=>Zu0 (sS st e (and2 h).1) (sSs r q (and2 h).2)
theorem sHs:∀ (l:List Hd) (ts:List ExceptHandler),mtHs g.c.P sc nm l ts=true→Zk6 (HdOk g sc nm) l ts
 | [],ts,h=>Zb4 (m:=Zk6 (HdOk g sc nm) []) h .nil
 | hd::r,ts,h=>Zdk (m:=Zk6 (HdOk g sc nm) (hd::r)) h fun e q h=>.cons (sH hd e (and2 h).1) (sHs r q (and2 h).2)
theorem sH:∀ (hd:Hd) (t:ExceptHandler),mtH g.c.P sc nm hd t=true→HdOk g sc nm hd t
 | .mk cl nmi b,.ExceptHandler ty name body p,h=>Zey (m:=fun ty=>HdOk g sc nm (.mk cl nmi b) (.ExceptHandler ty name body p)) h fun t h=>Zdk (m:=fun body=>HdOk g sc nm (.mk cl nmi b) (.ExceptHandler (some t) name body p)) h fun x body h =>
  have h3:=and2 h;have h2:=and2 h3.1;have h1:=and2 h2.1;⟨h1.1,h1.2,sSs b (x::body) h2.2,h3.2⟩
end
end
end Mine
end
section
namespace Mine
theorem Zm8 {ns:List Str}:∀ {vs:List Value},ns.length=vs.length→∀ n∈ns,((ns.zip vs).lookup n).isSome=true:=by
 induction ns with
 | nil=>intro vs _ n hn;cases hn
 | cons a r ih =>
  intro vs hl n hn
  cases vs with
  | nil=>simp at hl
  | cons v vs =>
   simp only [List.zip_cons_cons,List.lookup_cons]
   cases hb:n==a with
   | true=>rfl
   | false =>
    have hne:n≠a:=by simpa using hb
    rcases List.mem_cons.mp hn with h | h
    ·exact absurd h hne
    ·exact ih (by simpa using hl) n h
theorem Zm2 {α β:Type} {f g:α→Option β}:∀ {l:List α},(∀ x∈l,f x=g x)→l.filterMap f=l.filterMap g
 | [],_=>rfl
 | a::r,h=>by rw [List.filterMap_cons,List.filterMap_cons,h a (.head _),Zm2 fun x hx=>h x (.tail _ hx)]
theorem Zit {ns:List Str}:∀ {vs:List Value},ns.Nodup→ns.length=vs.length→(ns.filterMap fun n=>((ns.zip vs).lookup n).map fun v=>(n,v))=ns.zip vs:=by
 induction ns with
 | nil=>intro vs _ _;rfl
 | cons a r ih =>
  intro vs hn hl
  cases vs with
  | nil=>simp at hl
  | cons v vs =>
   obtain ⟨h1,h2⟩:=List.nodup_cons.mp hn
   simp only [List.zip_cons_cons,List.filterMap_cons,List.lookup_cons,beq_self_eq_true,Option.map_some]
   congr 1
   refine Eq.trans ?_ (ih h2 (by simpa using hl))
   apply Zm2
   intro n hn'
   have hne:(n==a)=false:=by
    apply beq_eq_false_iff_ne.mpr
    rintro rfl;exact h1 hn'
   simp only [hne]
theorem Zp8 {α:Type} {M:Model} {A:Around} {E:Value→Shared→Prop} {s:Shared} {Q:α→Shared→Prop} {c:Prop} [Decidable c] {a b:Sem α} (hc:¬c) (h:wpAny M A b Q E s):wpAny M A (if c then a else b) Q E s:=by rw [if_neg hc];exact h
theorem Zoh {s:Shared} {fd:FuncData} {vals:List Value} (h1:fd.params.posonlyargs=[]) (h2:fd.params.vararg=none) (h3:fd.params.kwonlyargs=[]) (h4:fd.params.kwarg=none) (h5:fd.defaults = .none)
  (h6:(fd.params.args.map (·.arg)).Nodup) (h7:fd.params.args.length=vals.length):BindsTo s fd ⟨vals,[]⟩ ((fd.params.args.map (·.arg)).zip vals):=by
 obtain ⟨nm,qn,⟨po,as,va,ko,kd,kw,df⟩,bd,sc,gl,cl,dfl,kdf,dc,pm,an,cd,ct,bl⟩:=fd
 replace h1:po=[]:=h1
 replace h2:va=none:=h2
 replace h3:ko=[]:=h3
 replace h4:kw=none:=h4
 replace h5:dfl = .none:=h5
 subst h1 h2 h3 h4 h5
 intro M A E Q q
 unfold bindArgs
 dsimp only
 refine wpAny_bind (wpAny_pure (wpAny_bind (wpAny_pure (a:=(none:Option (Array Value))) ?_)))
 have hl:(as.map (·.arg)).length=vals.length:=by rw [List.length_map];exact h7
 have ed:∀ k,List.drop k ((none:Option (Array Value)).getD #[]).toList=[]:=fun _=>List.drop_nil
 have e1:(((as.map (·.arg)).take (as.map (·.arg)).length).filter fun n=>(((as.map (·.arg)).zip vals).lookup n).isNone)=[]:=by
  rw [List.take_length,List.filter_eq_nil_iff]
  intro n hn
  have:=Zm8 hl n hn
  simpa using this
 refine Zp8 (fun z=>Nat.lt_irrefl _ (Nat.lt_of_lt_of_eq (of_decide_eq_true (and2 z).1) hl.symm)) ?_
 rw [ed]
 refine Zp8 (fun z=>Bool.noConfusion (((congrArg (fun l=>!l.isEmpty) e1).symm.trans z))) ?_
 rw [List.zip_nil_right]
 refine wpAny_bind (wpAny_pure (wpAny_bind (wpAny_pure ?_)))
 refine Zp8 (fun z=>Bool.noConfusion z) (wpAny_pure ?_)
 show Q ((as.map (fun a:PySem.Arg=>a.arg)++[]).filterMap fun n=>(((as.map (fun a:PySem.Arg=>a.arg)).zip vals).lookup n).map fun x=>(n,x)) s
 rw [List.append_nil]
 exact (Zit h6 hl).symm▸q
theorem St1.news {c:Cx} {R R':RR} {H:Zaa} {h h':Heap} (S:St1 c R H h) (k:∀ b ob,h.get? b=some ob→h'.get? b=some ob) (hs:h.objs.size≤h'.objs.size)
  (hR:∀ b,R' b=R b∨(h.objs.size≤b∧∃ r,R' b=some r∧ResAt h' b r)):St1 c R' H h':=by
 have S':=S.keeps k hs
 obtain ⟨D0,s40⟩:=S.rep
 have hb:=S.size
 refine ⟨S'.stays,S'.size,fun b r e=>?_,D0,⟨fun a ao e=>(s40.rep a ao e).agree (fun _=>k _ _) fun _ _ _=>⟨rfl,fun _=>k _ _⟩,fun a ao e=>?_,fun a cl es e=>?_,s40.inj⟩⟩
 ·rcases hR b with q | ⟨q1,r',q2,q3⟩
  ·rw [q] at e;exact S'.res b r e
  ·rw [q2] at e;obtain rfl:=Option.some.inj e;exact ⟨by have:=leN q1;lia,q3⟩
 ·refine ⟨(s40.above a ao e).1,?_⟩
  rcases hR a with q | ⟨q1,_⟩
  ·rw [q];exact (s40.above a ao e).2
  ·obtain ⟨ob,w⟩:=(s40.rep a ao e).there
   have:=lts w;have:=leN q1;lia
 ·obtain ⟨y1,y2,y3⟩:=s40.dict a cl es e
  refine ⟨y1,?_,y3⟩
  rcases hR (D0 a) with q | ⟨q1,_⟩
  ·rw [q];exact y2
  ·obtain ⟨_,ents,n,w,_⟩:=s40.rep a _ e
   have:=lts w;have:=leN q1;lia
theorem St.news {c:Cx} {R R':RR} {H:Zaa} {h h':Heap} (S:St c R H h) (k:∀ b ob,h.get? b=some ob→h'.get? b=some ob) (hs:h.objs.size≤h'.objs.size)
  (hR:∀ b,R' b=R b∨(h.objs.size≤b∧∃ r,R' b=some r∧ResAt h' b r)):St c R' H h':=let ⟨H₁,s,r⟩:=S;⟨H₁,s.news k hs hR,r⟩
theorem Zkz {kf:Str→Option NameKind}:∀ {bs:List (Str×Value)} {m:Str→Option Value} {n:Str},n ∉ bs.map (·.1)→bindL kf bs m n=m n
 | [],_,_,_=>rfl
 | (a,v)::r,m,n,h=>by
  simp only [List.map_cons,List.mem_cons,not_or] at h
  unfold bindL
  rw [Zkz h.2]
  split
  ·simp [h.1]
  ·rfl
theorem Zk1 {kf:Str→Option NameKind}:∀ {bs:List (Str×Value)} {m:Str→Option Value} {n:Str},n ∉ bs.map (·.1)→bindC kf bs m n=m n
 | [],_,_,_=>rfl
 | (a,v)::r,m,n,h=>by
  simp only [List.map_cons,List.mem_cons,not_or] at h
  unfold bindC
  rw [Zk1 h.2]
  split
  ·rfl
  ·simp [h.1]
theorem Zk0 {kf:Str→Option NameKind}:∀ {bs:List (Str×Value)} {m:Str→Option Value} {n:Str} {v:Value} {i:Nat},(bs.map (·.1)).Nodup→bs[i]? = some (n,v)→kf n=some .local→bindL kf bs m n=some v
 | (a,w)::r,m,n,v,0,hn,e,hk=>by
  simp only [List.getElem?_cons_zero,Option.some.injEq,Prod.mk.injEq] at e
  obtain ⟨rfl,rfl⟩:=e
  simp only [List.map_cons,List.nodup_cons] at hn
  unfold bindL
  rw [Zkz hn.1,if_pos hk];simp
 | (a,w)::r,m,n,v,i+1,hn,e,hk=>by
  simp only [List.getElem?_cons_succ] at e
  simp only [List.map_cons,List.nodup_cons] at hn
  unfold bindL
  exact Zk0 hn.2 e hk
theorem Zk2 {kf:Str→Option NameKind}:∀ {bs:List (Str×Value)} {m:Str→Option Value} {n:Str} {v:Value} {i:Nat},(bs.map (·.1)).Nodup→bs[i]? = some (n,v)→kf n=some .cell→bindC kf bs m n=some v
 | (a,w)::r,m,n,v,0,hn,e,hk=>by
  simp only [List.getElem?_cons_zero,Option.some.injEq,Prod.mk.injEq] at e
  obtain ⟨rfl,rfl⟩:=e
  simp only [List.map_cons,List.nodup_cons] at hn
  unfold bindC
  rw [Zk1 hn.1,if_neg (by rw [hk];simp)];simp
 | (a,w)::r,m,n,v,i+1,hn,e,hk=>by
  simp only [List.getElem?_cons_succ] at e
  simp only [List.map_cons,List.nodup_cons] at hn
  unfold bindC
  exact Zk2 hn.2 e hk
noncomputable def Zt8 (d:Data) (k:FuncData→Bool):Bool:=match d with
 | .func fd=>k fd
 | _=>false
theorem Zns {d:Data} {k:FuncData→Bool} {C:Prop} (h:Zt8 d k=true) (q:∀ fd,d = .func fd→k fd=true→C):C:=by
 cases d with
 | func fd=>exact q fd rfl h
 | _=>contradiction
noncomputable def Zpl (d:FuncBody) (k:List Stmt→Bool):Bool:=match d with
 | .stmts b=>k b
 | _=>false
theorem Zlm {d:FuncBody} {k:List Stmt→Bool} {C:Prop} (h:Zpl d k=true) (q:∀ b,d = .stmts b→k b=true→C):C:=by
 cases d with
 | stmts b=>exact q b rfl h
 | _=>contradiction
noncomputable def Zxo (d:Option Obj) (k:Obj→Bool):Bool:=match d with
 | some o=>k o
 | none=>false
theorem Zpo {d:Option Obj} {k:Obj→Bool} {C:Prop} (h:Zxo d k=true) (q:∀ o,d=some o→k o=true→C):C:=by
 cases d with
 | some o=>exact q o rfl h
 | none=>contradiction
noncomputable def fnOk (K:Frag) (P:Pg) (a:Addr) (F:Fn):Bool:=Zxo (K.lookup a) fun o=>Zt8 o.data fun fd=>Zpl fd.body fun body=>fd.globals==mainGlobals&&fd.builtins==builtinsNs&&fd.closure.isEmpty&&fd.defaults==.none&&fd.params.posonlyargs.isEmpty&&fd.params.vararg.isNone&&fd.params.kwonlyargs.isEmpty&&fd.params.kwarg.isNone &&
     !fd.scope.isCoroutine&&!fd.scope.isGenerator&&fd.scope.kind==.function&&codeIn K fd.code fd.qualname&&(fd.params.args.map (·.arg))==(F.slots.map Str.ofString).take F.npar&&decide (F.npar≤F.slots.length)&&decide ((F.slots.map Str.ofString).Nodup) &&
     (F.slots.map Str.ofString).all (fun n=>match fd.scope.names.lookup n with | some .local=>true | some .cell=>((cellsFrom 0 fd.scope.names []).lookup n).isSome | _=>false)&&decide ((cellsFrom 0 fd.scope.names []).map (·.1)).Nodup &&
     mtSs P fd.scope (F.slots.map Str.ofString) F.body body
theorem Zfw {l:List (Str×Addr)} {n:Str}:(l.lookup n).isSome=(l.map (·.1)).contains n:=by
 induction l with
 | nil=>rfl
 | cons a r ih =>
  obtain ⟨k,v⟩:=a
  simp only [List.lookup_cons,List.map_cons,List.contains_cons]
  cases hb:n==k with
  | true=>simp
  | false=>simp [ih]
noncomputable def Zfy (F:Fn) (args:List AV):VV:=args.map some++List.replicate (F.slots.length - F.npar) none
inductive Zws (K:Frag) (P:Pg) (a:Addr) (F:Fn):Prop
 | mk (o:Obj) (fd:FuncData) (body:List Stmt) (ho:K.lookup a=some o) (hd:o.data = .func fd) (hb:fd.body = .stmts body) (c1:fd.globals=mainGlobals) (c2:fd.builtins=builtinsNs) (c3:fd.closure=[]) (c4:fd.defaults = .none) (c5:fd.params.posonlyargs=[]) (c6:fd.params.vararg=none) (c7:fd.params.kwonlyargs=[]) (c8:fd.params.kwarg=none)
   (c9:fd.scope.isCoroutine=false) (c10:fd.scope.isGenerator=false) (c11:fd.scope.kind = .function) (c12:codeIn K fd.code fd.qualname=true) (c13:fd.params.args.map (·.arg)=(F.slots.map Str.ofString).take F.npar) (c14:F.npar≤F.slots.length) (c15:(F.slots.map Str.ofString).Nodup)
   (c16:∀ n∈F.slots.map Str.ofString,fd.scope.names.lookup n=some .local∨(fd.scope.names.lookup n=some .cell∧((cellsFrom 0 fd.scope.names []).lookup n).isSome=true)) (c17:((cellsFrom 0 fd.scope.names []).map (·.1)).Nodup) (c18:mtSs P fd.scope (F.slots.map Str.ofString) F.body body=true)
theorem Zvw {fd:FuncData} {n:Str} (h:(match fd.scope.names.lookup n with | some .local=>true | some .cell=>((cellsFrom 0 fd.scope.names []).lookup n).isSome | _=>false)=true):fd.scope.names.lookup n=some .local∨(fd.scope.names.lookup n=some .cell∧((cellsFrom 0 fd.scope.names []).lookup n).isSome=true):=by
 revert h
 cases fd.scope.names.lookup n with
 | none=>exact fun h=>Bool.noConfusion h
 | some k=>cases k<;>first | exact fun _=>.inl rfl | exact fun h=>.inr ⟨rfl,h⟩ | exact fun h=>Bool.noConfusion h
theorem Zte {K:Frag} {P:Pg} {a:Addr} {F:Fn} (h:fnOk K P a F=true):Zws K P a F :=
 Zpo h fun o ho h=>Zns h fun fd hd h=>Zlm h fun body hb h=>⟨o,fd,body,ho,hd,hb,eq_of_beq (and2 (and2 (and2 (and2 (and2 (and2 (and2 (and2 (and2 (and2 (and2 (and2 (and2 (and2 (and2 (and2 (and2 h).1).1).1).1).1).1).1).1).1).1).1).1).1).1).1).1).1,eq_of_beq (and2 (and2 (and2 (and2 (and2 (and2 (and2 (and2 (and2 (and2 (and2 (and2 (and2 (and2 (and2 (and2 (and2 h).1).1).1).1).1).1).1).1).1).1).1).1).1).1).1).1).2,List.isEmpty_iff.mp (and2 (and2 (and2 (and2 (and2 (and2 (and2 (and2 (and2 (and2 (and2 (and2 (and2 (and2 (and2 (and2 h).1).1).1).1).1).1).1).1).1).1).1).1).1).1).1).2,eq_of_beq (and2 (and2 (and2 (and2 (and2 (and2 (and2 (and2 (and2 (and2 (and2 (and2 (and2 (and2 (and2 h).1).1).1).1).1).1).1).1).1).1).1).1).1).1).2,List.isEmpty_iff.mp (and2 (and2 (and2 (and2 (and2 (and2 (and2 (and2 (and2 (and2 (and2 (and2 (and2 (and2 h).1).1).1).1).1).1).1).1).1).1).1).1).1).2,Option.isNone_iff_eq_none.mp (and2 (and2 (and2 (and2 (and2 (and2 (and2 (and2 (and2 (and2 (and2 (and2 (and2 h).1).1).1).1).1).1).1).1).1).1).1).1).2,List.isEmpty_iff.mp (and2 (and2 (and2 (and2 (and2 (and2 (and2 (and2 (and2 (and2 (and2 (and2 h).1).1).1).1).1).1).1).1).1).1).1).2,Option.isNone_iff_eq_none.mp (and2 (and2 (and2 (and2 (and2 (and2 (and2 (and2 (and2 (and2 (and2 h).1).1).1).1).1).1).1).1).1).1).2,(Bool.not_eq_true' _).mp (and2 (and2 (and2 (and2 (and2 (and2 (and2 (and2 (and2 (and2 h).1).1).1).1).1).1).1).1).1).2,(Bool.not_eq_true' _).mp (and2 (and2 (and2 (and2 (and2 (and2 (and2 (and2 (and2 h).1).1).1).1).1).1).1).1).2,eq_of_beq (and2 (and2 (and2 (and2 (and2 (and2 (and2 (and2 h).1).1).1).1).1).1).1).2,(and2 (and2 (and2 (and2 (and2 (and2 (and2 h).1).1).1).1).1).1).2,eq_of_beq (and2 (and2 (and2 (and2 (and2 (and2 h).1).1).1).1).1).2,of_decide_eq_true (and2 (and2 (and2 (and2 (and2 h).1).1).1).1).2,of_decide_eq_true (and2 (and2 (and2 (and2 h).1).1).1).2,fun n hn=>Zvw (List.all_eq_true.mp (and2 (and2 (and2 h).1).1).2 n hn),of_decide_eq_true (and2 (and2 h).1).2,(and2 h).2⟩
theorem Zqg {F:Fn} {args:List AV} (h:args.length=F.npar) (h':F.npar≤F.slots.length):(Zfy F args).length=F.slots.length:=by
 unfold Zfy;rw [List.length_append,List.length_map,List.length_replicate,h];exact Nat.add_sub_cancel' h'
theorem Zkk {F:Fn} {args:List AV} {vals:List Value} {ps:List Str} {i:Nat} {n:Str} (hl:args.length=F.npar) (hv:VRs args vals) (hp:ps=(F.slots.map Str.ofString).take F.npar) (hn:(F.slots.map Str.ofString)[i]? = some n) :
  ∃ v,(Zfy F args)[i]? = some v∧∀ (y:Option Value),(∀ w,(ps.zip vals)[i]? = some (n,w)→y=some w)→OVW v y:=by
 have hi:i<F.slots.length:=by have:=(List.getElem?_eq_some_iff.mp hn).1;rwa [List.length_map] at this
 unfold Zfy
 by_cases z:i<F.npar
 ·have hia:i<args.length:=by rw [hl];exact z
  have hav:=List.getElem?_eq_getElem hia
  obtain ⟨w,hw,hvr⟩:=hv.get hav
  refine ⟨some args[i],by rw [List.getElem?_append_left (by rw [List.length_map];exact hia),List.getElem?_map,hav];rfl,fun y hy=>?_⟩
  rw [hy w (by rw [List.getElem?_zip_eq_some,hp,List.getElem?_take_of_lt z];exact ⟨hn,hw⟩)]
  exact .some hvr
 ·refine ⟨none,?_,fun y _=>.none⟩
  rw [List.getElem?_append_right (by rw [List.length_map,hl];exact Nat.not_lt.mp z),List.getElem?_replicate,List.length_map,hl,if_pos (Nat.sub_lt_sub_right (Nat.not_lt.mp z) hi)]
noncomputable def Zh5 (L:Addr) (m cm:Str→Option Value) (cells:List (Str×Addr)) (R:RR):RR:=fun b=>if b=L then some (.ns m) else match cells.find? (fun p=>p.2==b) with
 | some p=>some (.cell (cm p.1))
 | none=>R b
section
variable {L:Addr} {m cm:Str→Option Value} {cells:List (Str×Addr)} {R:RR}
theorem Zrf:Zh5 L m cm cells R L=some (.ns m):=if_pos rfl
theorem Zog {n:Str} {a:Addr} (ab:∀ p∈cells,@LT.lt Nat _ L p.2) (ap:∀ n n' c,(n,c)∈cells→(n',c)∈cells→n=n') (h:cells.lookup n=some a):Zh5 L m cm cells R a=some (.cell (cm n)):=by
 have hmem:=mem_of_lookup h
 have hlt:=ab _ hmem
 unfold Zh5
 rw [if_neg (fun z=>by rw [z] at hlt;exact Nat.lt_irrefl _ hlt)]
 cases hf:cells.find? (fun p=>p.2==a) with
 | none=>exact absurd (beq_self_eq_true a) (List.find?_eq_none.mp hf _ hmem)
 | some p =>
  have h1:=List.mem_of_find?_eq_some hf
  have h2:p.2=a:=eq_of_beq (List.find?_some (p:=fun (p:Str×Addr)=>p.2==a) hf)
  have h3:p.1=n:=ap p.1 n a (by rw [← h2];exact h1) hmem
  rw [← h3]
theorem Ztq (b:Addr):Zh5 L m cm cells R b=R b∨b=L∨∃ p∈cells,p.2=b:=by
 unfold Zh5
 by_cases z:b=L
 ·exact .inr (.inl z)
 ·rw [if_neg z]
  cases hf:cells.find? (fun p=>p.2==b) with
  | none=>exact .inl rfl
  | some p=>exact .inr (.inr ⟨p,List.mem_of_find?_eq_some hf,eq_of_beq (List.find?_some (p:=fun (p:Str×Addr)=>p.2==b) hf)⟩)
end
theorem Zof {c:Cx} {mg mb:Str→Option Value} (C:c.Ok mg mb) (PO:PgOk c) {n:Nat} {md:Bool} {f:String} {F:Fn} (hok:fnOk c.K c.P (c.fa f) F=true) {args:List AV} {Q:AV→Zaa→Prop} {E:String→Zaa→Prop} {H:Zaa} (hlen:args.length=F.npar)
  (q:wpSs ⟨c,n,md⟩ F.body (fun _ H=>Q .none H) Q (fun cl _ H=>E cl H) (Zfy F args) H):CallOK c (n+1) md f args Q E H:=by
 intro A stk R s vals Rs aok stkok S hv kQ kE
 obtain ⟨o,fd,body,ho,hd,hb,c1,c2,c3,c4,c5,c6,c7,c8,c9,c10,c11,c12,c13,c14,c15,c16,c17,c18⟩:=Zte hok
 have X:=C.kin.keeps S.stays
 have hvl:=hv.length
 have hpl:(fd.params.args.map (·.arg)).length=F.npar:=by rw [c13,List.length_take,List.length_map,Nat.min_eq_left c14]
 have hpn:(fd.params.args.map (·.arg)).Nodup:=by rw [c13];exact c15.sublist (List.take_sublist _ _)
 have hpv:fd.params.args.length=vals.length:=by rw [← hvl,hlen,← hpl,List.length_map]
 have hcs:∀ (k:Nat) n,((cellsFrom k fd.scope.names []).lookup n).isSome=((cellsFrom 0 fd.scope.names []).lookup n).isSome:=fun k n=>by
  rw [Zfw,Zfw,cellsFrom_names fd.scope.names 0 k [] [] rfl]
 have hnodup:∀ k:Nat,((cellsFrom k fd.scope.names []).map (·.1)).Nodup:=fun k=>by rw [← cellsFrom_names fd.scope.names 0 k [] [] rfl];exact c17
 refine codeAny_call_function (by have:=aok.depth;lia) (X _ _ ho) hd c9 c10 hb (codeRec_of X c12) (Zoh c5 c6 c7 c8 c4 hpn hpv _ _ _ _ ?_)
 rw [c3]
 refine wpAny_newFunctionEnv_cells c11 (fun x hx=>?_) fun env he s₁ x=>?_
 ·have hm:x.1∈F.slots.map Str.ofString:=by
   have:=(List.of_mem_zip (show (x.1,x.2)∈_ from hx)).1
   rw [c13] at this
   exact List.mem_of_mem_take this
  exact (c16 x.1 hm).imp_right fun h=>⟨h.1,by rw [hcs];exact h.2⟩
 subst he
 refine ⟨(C.nolimit.keeps S.stays).keeps x.toInCall.keep,codeAny_func ?_⟩
 generalize henv:newEnv fd.scope s.heap.objs.size fd.globals (cellsFrom (s.heap.objs.size+1) fd.scope.names []) (fd.qualname++".<locals>.") (some (c.fa f)) fd.code none fd.builtins=env at x ⊢
 have el:env.locals=s.heap.objs.size:=by rw [← henv];rfl
 have es:env.scope=fd.scope:=by rw [← henv];rfl
 have ec:env.cells=cellsFrom (s.heap.objs.size+1) fd.scope.names []:=by rw [← henv];rfl
 have eg:env.globals=mainGlobals:=by rw [← henv];exact c1
 have eb:env.builtins=builtinsNs:=by rw [← henv];exact c2
 have ef:env.frame=some env.locals:=by rw [← henv];rfl
 clear henv
 have ek:∀ n,env.kindOf n=fd.scope.names.lookup n:=fun n=>by unfold Env.kindOf;rw [es]
 generalize hm:bindL env.kindOf ((fd.params.args.map (·.arg)).zip vals) (fun _=>none)=m at x
 generalize hcm:bindC env.kindOf ((fd.params.args.map (·.arg)).zip vals) (fun _=>none)=cm at x
 have hsz:s.heap.objs.size≤s₁.heap.objs.size:=by
  obtain ⟨oL,_,_,w,_⟩:=x.toInCall.ns
  rw [← el];exact Nat.le_of_lt (lts w)
 have habove:∀ p∈env.cells,@LT.lt Nat _ env.locals p.2:=fun p hp=>x.above p.1 p.2 hp
 have hap:∀ n n' c,(n,c)∈env.cells→(n',c)∈env.cells→n=n':=fun n n' c h h'=>name_of_addr x.apart h h'
 have hL:Zh5 env.locals m cm env.cells R env.locals=some (.ns m):=Zrf
 have hcell:∀ n a,env.cells.lookup n=some a→Zh5 env.locals m cm env.cells R a=some (.cell (cm n)):=fun n a h=>Zog habove hap h
 have hR:∀ b,Zh5 env.locals m cm env.cells R b=R b∨(s.heap.objs.size≤b∧∃ r,Zh5 env.locals m cm env.cells R b=some r∧ResAt s₁.heap b r):=fun b=>by
  rcases Ztq (L:=env.locals) (m:=m) (cm:=cm) (cells:=env.cells) (R:=R) b with h | rfl | ⟨p,h1,rfl⟩
  ·exact .inl h
  ·exact .inr ⟨by rw [el];exact Nat.le_refl _,_,hL,x.toInCall.ns⟩
  ·have hl:env.cells.lookup p.1=some p.2:=lookup_of_mem_nodup (by rw [ec];exact hnodup _) h1
   exact .inr ⟨by rw [← el];exact Nat.le_of_lt (habove p h1),_,hcell _ _ hl,x.cell _ _ hl⟩
 generalize Zh5 env.locals m cm env.cells R=R' at hL hcell hR
 have hlt:∀ b r,R b=some r→@LT.lt Nat _ b s.heap.objs.size:=fun b r e=>let ⟨ob,w⟩:=(S.res b r e).2.there;lts w
 have hold:∀ b r,R b=some r→R' b=some r:=fun b r e=>by
  rcases hR b with h | ⟨h,_⟩
  ·rw [h];exact e
  ·exact absurd (hlt b r e) (Nat.not_lt.mpr h)
 have hzn:(((fd.params.args.map (·.arg)).zip vals).map (·.1)).Nodup:=by rw [List.map_fst_zip (by rw [List.length_map];exact Nat.le_of_eq hpv)];exact hpn
 have fr:Frm R' env fd.scope (F.slots.map Str.ofString) (Zfy F args):=by
  refine ⟨by rw [es];exact c11,eg,eb,fun id h=>?_,fun id h=>?_,fun id h=>?_,fun id h=>by rw [ek];exact h,fun id h=>by rw [ek];exact h,by rw [Zqg hlen c14,List.length_map],fun n n' a h h'=>hap n n' a (mem_of_lookup h) (mem_of_lookup h'),⟨m,hL,fun i n hn hk=>?_⟩,fun i n hn hk=>?_⟩
  ·rw [ek];exact eq_of_beq h
  ·rw [ek];exact Zkj h
  ·rw [ek];exact Zii h
  ·obtain ⟨v,h1,h2⟩:=Zkk hlen hv c13 hn
   exact ⟨v,h1,h2 _ fun w hw=>by rw [← hm];exact Zk0 hzn hw hk⟩
  ·obtain ⟨v,h1,h2⟩:=Zkk hlen hv c13 hn
   rcases c16 n (List.mem_of_getElem? hn) with z | ⟨z1,z2⟩
   ·rw [ek,z] at hk;rcases hk with hk | hk<;>contradiction
   ·obtain ⟨a,ha⟩:=Option.isSome_iff_exists.mp (show (env.cells.lookup n).isSome=true by rw [ec,hcs];exact z2)
    exact ⟨a,_,v,ha,hcell n a ha,h1,h2 _ fun w hw=>by rw [← hcm];exact Zk2 hzn hw (by rw [ek];exact z1)⟩
 have ev:Ev ⟨c,n,md⟩ (A.deeper env) R' env stk:=by
  refine ⟨⟨?_,?_,?_,aok.hand⟩,fun e he=>?_⟩
  ·show A.frames.map (env::·)=_;rw [aok.frames];rfl
  ·have:=aok.depth;show A.depth+1+110+4+8*n<_;lia
  ·have:=aok.units;show A.units+3+100+10*4+60*n<_;lia
  ·rcases List.mem_cons.mp he with rfl | he
   ·exact ⟨by rw [es];exact c11,ef,by rw [es];exact c10,by rw [es];exact c9,eb,eg,m,hL⟩
   ·have G:=stkok e he
    obtain ⟨mm,hmm⟩:=G.ns
    exact ⟨G.kind,G.frame,G.gen,G.co,G.blt,G.glob,mm,hold _ _ hmm⟩
 have back:∀ {R2:RR},RStep env R' R2→∀ b r,R b=some r→R2 b=some r:=fun {R2} r b y e=>by
  have hlt:=hlt b y e
  rcases r b with h | ⟨h,_⟩ | ⟨⟨nn,h⟩,_⟩
  ·rw [h];exact hold b y e
  ·rw [h,el] at hlt;exact absurd hlt (Nat.lt_irrefl _)
  ·have:=habove _ (mem_of_lookup h);rw [el] at this;exact absurd (Nat.lt_trans hlt this) (Nat.lt_irrefl _)
 refine wpAny_mono (sSs (g:=⟨c,n,md⟩) C PO c15 F.body body c18 md (A.deeper env) env stk R' (Zfy F args) s s₁ H _ Q _ ev fr (S.news x.toInCall.keep hsz hR) x.toInCall.same q) (fun fl s₂ z=>?_) fun e s₂ z=>?_
 ·cases fl with
  | next =>
   obtain ⟨R2,V2,H₂,r₂,_,S₂,m₂,q₂⟩:=z
   exact kQ .none .none s₂ H₂ .none (S₂.weaken (back r₂)) m₂ q₂
  | ret v =>
   obtain ⟨R2,av,H₂,r₂,hv2,S₂,m₂,q₂⟩:=z
   exact kQ av v s₂ H₂ hv2 (S₂.weaken (back r₂)) m₂ q₂
  | brk=>exact z.elim
  | cont=>exact z.elim
 ·obtain ⟨a,cl,R2,V2,H₂,fl,rfl,r₂,f₂,hfl,X2,m₂,q₂⟩:=z
  refine Zqu ev.aok.frames (r₂.stk ev.stk) X2 hfl fun h' X3=>?_
  exact kE a cl _ H₂ (X3.weaken (back r₂)) (m₂.heap h') q₂
end Mine
end
section
namespace Mine
noncomputable def Zro (v:Option (Option Value)):Addr:=match v with
 | some (some (.ref a))=>a
 | _=>0
noncomputable def caOf (K:Frag) (cl:String):Addr:=Zro (nsIn K mainGlobals (Str.ofString cl))
noncomputable def faOf (K:Frag) (P:Pg) (f:String):Addr:=match P.meths.find? (fun p=>p.1++"."++p.2==f) with
 | some (cl,m)=>Zro (findIn K (.ref (caOf K cl)) (Str.ofString m))
 | none=>Zro (nsIn K mainGlobals (Str.ofString f))
noncomputable def vrB (a:AV) (v:Value):Bool:=match a with
 | .none=>v==.none
 | .bool a=>v==.bool a
 | .int a=>if h:v.ctorIdx=4 then Value.int.elim (motive:=fun _=>Bool) v h fun b _=>b==a else false
 | .str a=>if h:v.ctorIdx=6 then Value.str.elim (motive:=fun _=>Bool) v h fun b _=>b==a&&PyData.strOk b else false
 | .ref _=>false
theorem Zze {a:AV} {v:Value} (h:vrB a v=true):VR a v:=by
 cases a with
 | none=>refine rl (eq_of_beq h) ?_;exact .none
 | bool b=>refine rl (eq_of_beq h) ?_;exact .bool b
 | int i=>exact (dn h).elim fun q z=>Value.int.elim (motive:=fun v=>∀ q,Value.int.elim (motive:=fun _=>Bool) v q (fun b _=>b==i)=true→VR (.int i) v) v q (fun b t _ z=>eq_of_beq z▸.int b t) q z
 | str x=>exact (dn h).elim fun q z=>Value.str.elim (motive:=fun v=>∀ q,Value.str.elim (motive:=fun _=>Bool) v q (fun b _=>b==x&&PyData.strOk b)=true→VR (.str x) v) v q (fun b t _ z=>eq_of_beq (and2 z).1▸.str b t (and2 z).2) q z
 | ref p=>exact Bool.noConfusion h
noncomputable def okFn (K:Frag) (P:Pg):Bool:=P.gfns.all fun f=>nsIn K mainGlobals (Str.ofString f)==some (some (.ref (faOf K P f)))&&keepIn K (.ref (faOf K P f))
noncomputable def Zz6 (K:Frag) (P:Pg):Bool:=P.classes.all fun cl=>nsIn K mainGlobals (Str.ofString cl)==some (some (.ref (caOf K cl)))&&keepIn K (.ref (caOf K cl))&&makesIn K (caOf K cl) &&
 findIn K (.ref (caOf K cl)) "__init__"==some (some (.ref (faOf K P (cl++".__init__"))))&&isFn K (.ref (faOf K P (cl++".__init__")))
noncomputable def Zxv (K:Frag) (P:Pg):Bool:=P.meths.all fun p=>plainGet K (caOf K p.1) (Str.ofString p.2)&&findIn K (.ref (caOf K p.1)) (Str.ofString p.2)==some (some (.ref (faOf K P (p.1++"."++p.2)))) &&
 isFn K (.ref (faOf K P (p.1++"."++p.2)))&&keepIn K (.ref (faOf K P (p.1++"."++p.2)))
noncomputable def Zxw (K:Frag) (P:Pg):Bool:=P.attrs.all fun p=>plainGet K (caOf K p.1) (Str.ofString p.2)&&hasDictIn K (caOf K p.1)&&findIn K (.ref (caOf K p.1)) (Str.ofString p.2)==some none &&
 findIn K (.ref (caOf K p.1)) "__setattr__"==some (some (.builtin "object.__setattr__"))&&plainOver K (caOf K p.1)&&takerIn K (caOf K p.1) (Str.ofString p.2)==some none
noncomputable def Zxu (K:Frag) (P:Pg):Bool:=P.prims.all fun f=>nsIn K mainGlobals (Str.ofString f)==some none&&!(Str.ofString f==Str.ofString "__name__")&&bootBuiltins (Str.ofString f)==some (Zgt f)
noncomputable def okG (K:Frag) (P:Pg) (cl:String):Bool:=findIn K (.ref (caOf K cl)) "__getattribute__"==some (some (.builtin "BaseException.__getattribute__"))&&findIn K (.ref (caOf K cl)) "__getattr__"==some none&&findIn K (.ref (caOf K cl)) "__class__"==some (some (.builtin "object.__class__")) &&
 specialIn K (.builtin "object.__class__") "__get__"==some (some (.builtin "getset_descriptor.__get__"))&&takesIn K (.builtin "object.__class__")==some true&&mroIn K (caOf K cl) (.type "object")==some true&&Zd3 P cl cl
noncomputable def Zz5 (K:Frag) (P:Pg):Bool:=P.excs.all fun p=>p.2.all (fun ty=>!P.prims.contains ty||(ty=="ValueError"&&subIn K (.ref (caOf K p.1)) (.type ty)==some true)) &&
 nsIn K mainGlobals (Str.ofString p.1)==some (some (.ref (caOf K p.1)))&&excIn K (caOf K p.1) veM "ValueError.__new__"&&instIn K (.ref (caOf K p.1)) (.type "tuple")==some false&&subIn K (.ref (caOf K p.1)) (.type "BaseException")==some true &&
 (clsIn K (caOf K p.1)).isSome&&typeIn K (.ref (caOf K p.1))==some (.type "type")&&instIn K (.ref (caOf K p.1)) (.type "type")==some true&&!typeNames.contains p.1&&(P.excs.all fun q=>subIn K (.ref (caOf K p.1)) (.ref (caOf K q.1))==some (Zd3 P p.1 q.1))&&okG K P p.1
noncomputable def Zvj (K:Frag) (P:Pg):Bool:=P.consts.all fun p=>match nsIn K mainGlobals (Str.ofString p.1) with
 | some (some x)=>vrB p.2 x
 | _=>false
noncomputable def Zz4 (K:Frag) (P:Pg):Bool:=P.fns.all fun p=>fnOk K P (faOf K P p.1) p.2
noncomputable def Znv (K:Frag) (P:Pg):Bool:=okFn K P&&Zz6 K P&&Zxv K P&&Zxw K P&&Zxu K P&&Zz5 K P&&Zvj K P&&Zz4 K P
theorem Za0 {α:Type}:∀ {l:List (String×α)} {n:String} {c:α},l.lookup n=some c→(n,c)∈l
 | (k,v)::r,n,c,h=>by
  rw [List.lookup_cons] at h
  cases hb:n==k with
  | true=>rw [hb] at h;obtain rfl:=Option.some.inj h;refine rl (beq_iff_eq.mp hb) ?_;exact List.mem_cons_self
  | false=>rw [hb] at h;exact List.mem_cons_of_mem _ (Za0 h)
noncomputable def cxOf (prog:Program) (w:World) (K:Frag) (base:Heap) (P:Pg):Cx:=⟨prog,w,K,base,P,faOf K P,caOf K⟩
theorem Za8 {α:Type} {l:List α} {p:α→Bool} (h:l.all p=true) {a:α} (m:a∈l):p a=true:=List.all_eq_true.mp h a m
theorem Zbt {α:Type} [BEq α] [LawfulBEq α] {l:List α} {a:α} (h:l.contains a=true):a∈l:=List.contains_iff_mem.mp h
theorem Zrz {α:Type} {o:Option (List String)} {ty:String} (h:(o.map (·.contains ty)).getD false=true):∃ l,o=some l∧ty∈l:=by
 cases o with
 | none=>cases h
 | some l=>exact ⟨l,rfl,Zbt h⟩
set_option tactic.hygienic true in
theorem Zvg {prog:Program} {w:World} {K:Frag} {base:Heap} {P:Pg} (h:Znv K P=true):PgOk (cxOf prog w K base P)∧∀ f F,P.fns.lookup f=some F→fnOk K P (faOf K P f) F=true:=by
 refine ⟨⟨fun f hf=>?_,fun cl hf=>?_,fun cl m hf=>?_,fun cl n hf=>?_,fun f hf=>?_,fun cl ty hf ht=>?_,fun cl hf=>?_,fun cl d hc hd=>?_,fun cl hf=>?_,fun n v hf=>?_⟩,fun f F hf=>Za8 (and2 h).2 (Za0 hf)⟩
 ·exact ⟨eq_of_beq (and2 (Za8 (and2 (and2 (and2 (and2 (and2 (and2 (and2 h).1).1).1).1).1).1).1 (Zbt hf))).1,(and2 (Za8 (and2 (and2 (and2 (and2 (and2 (and2 (and2 h).1).1).1).1).1).1).1 (Zbt hf))).2⟩
 ·exact ⟨eq_of_beq (and2 (and2 (and2 (and2 (Za8 (and2 (and2 (and2 (and2 (and2 (and2 (and2 h).1).1).1).1).1).1).2 (Zbt hf))).1).1).1).1,(and2 (and2 (and2 (and2 (Za8 (and2 (and2 (and2 (and2 (and2 (and2 (and2 h).1).1).1).1).1).1).2 (Zbt hf))).1).1).1).2,(and2 (and2 (and2 (Za8 (and2 (and2 (and2 (and2 (and2 (and2 (and2 h).1).1).1).1).1).1).2 (Zbt hf))).1).1).2,eq_of_beq (and2 (and2 (Za8 (and2 (and2 (and2 (and2 (and2 (and2 (and2 h).1).1).1).1).1).1).2 (Zbt hf))).1).2,(and2 (Za8 (and2 (and2 (and2 (and2 (and2 (and2 (and2 h).1).1).1).1).1).1).2 (Zbt hf))).2⟩
 ·exact ⟨(and2 (and2 (and2 (Za8 (and2 (and2 (and2 (and2 (and2 (and2 h).1).1).1).1).1).2 (Zbt hf))).1).1).1,eq_of_beq (and2 (and2 (and2 (Za8 (and2 (and2 (and2 (and2 (and2 (and2 h).1).1).1).1).1).2 (Zbt hf))).1).1).2,(and2 (and2 (Za8 (and2 (and2 (and2 (and2 (and2 (and2 h).1).1).1).1).1).2 (Zbt hf))).1).2,(and2 (Za8 (and2 (and2 (and2 (and2 (and2 (and2 h).1).1).1).1).1).2 (Zbt hf))).2⟩
 ·exact ⟨(and2 (and2 (and2 (and2 (and2 (Za8 (and2 (and2 (and2 (and2 (and2 h).1).1).1).1).2 (Zbt hf))).1).1).1).1).1,(and2 (and2 (and2 (and2 (and2 (Za8 (and2 (and2 (and2 (and2 (and2 h).1).1).1).1).2 (Zbt hf))).1).1).1).1).2,eq_of_beq (and2 (and2 (and2 (and2 (Za8 (and2 (and2 (and2 (and2 (and2 h).1).1).1).1).2 (Zbt hf))).1).1).1).2,eq_of_beq (and2 (and2 (and2 (Za8 (and2 (and2 (and2 (and2 (and2 h).1).1).1).1).2 (Zbt hf))).1).1).2,(and2 (and2 (Za8 (and2 (and2 (and2 (and2 (and2 h).1).1).1).1).2 (Zbt hf))).1).2,eq_of_beq (and2 (Za8 (and2 (and2 (and2 (and2 (and2 h).1).1).1).1).2 (Zbt hf))).2⟩
 ·exact ⟨eq_of_beq (and2 (and2 (Za8 (and2 (and2 (and2 (and2 h).1).1).1).2 (Zbt hf))).1).1,not1 (and2 (and2 (Za8 (and2 (and2 (and2 (and2 h).1).1).1).2 (Zbt hf))).1).2,eq_of_beq (and2 (Za8 (and2 (and2 (and2 (and2 h).1).1).1).2 (Zbt hf))).2⟩
 ·obtain ⟨l,hl,hm⟩:=Zrz (α:=Nat) hf
  have q:=Za8 (and2 (and2 (and2 (and2 (and2 (and2 (and2 (and2 (and2 (and2 (Za8 (and2 (and2 (and2 h).1).1).2 (Za0 hl))).1).1).1).1).1).1).1).1).1).1 hm
  rw [show P.prims.contains ty=true from ht] at q
  exact ⟨eq_of_beq (and2 q).1,eq_of_beq (and2 q).2⟩
 ·obtain ⟨l,hl⟩:=Option.isSome_iff_exists.mp hf
  exact ⟨eq_of_beq (and2 (and2 (and2 (and2 (and2 (and2 (and2 (and2 (and2 (and2 (Za8 (and2 (and2 (and2 h).1).1).2 (Za0 hl))).1).1).1).1).1).1).1).1).1).2,(and2 (and2 (and2 (and2 (and2 (and2 (and2 (and2 (and2 (Za8 (and2 (and2 (and2 h).1).1).2 (Za0 hl))).1).1).1).1).1).1).1).1).2,eq_of_beq (and2 (and2 (and2 (and2 (and2 (and2 (and2 (and2 (Za8 (and2 (and2 (and2 h).1).1).2 (Za0 hl))).1).1).1).1).1).1).1).2,eq_of_beq (and2 (and2 (and2 (and2 (and2 (and2 (and2 (Za8 (and2 (and2 (and2 h).1).1).2 (Za0 hl))).1).1).1).1).1).1).2,(and2 (and2 (and2 (and2 (and2 (and2 (Za8 (and2 (and2 (and2 h).1).1).2 (Za0 hl))).1).1).1).1).1).2,eq_of_beq (and2 (and2 (and2 (and2 (and2 (Za8 (and2 (and2 (and2 h).1).1).2 (Za0 hl))).1).1).1).1).2,eq_of_beq (and2 (and2 (and2 (and2 (Za8 (and2 (and2 (and2 h).1).1).2 (Za0 hl))).1).1).1).2,not1 (and2 (and2 (and2 (Za8 (and2 (and2 (and2 h).1).1).2 (Za0 hl))).1).1).2⟩
 ·obtain ⟨l,hl⟩:=Option.isSome_iff_exists.mp hc
  obtain ⟨l',hl'⟩:=Option.isSome_iff_exists.mp hd
  exact eq_of_beq (Za8 (and2 (and2 (Za8 (and2 (and2 (and2 h).1).1).2 (Za0 hl))).1).2 (Za0 hl'))
 ·obtain ⟨l,hl⟩:=Option.isSome_iff_exists.mp hf
  exact ⟨eq_of_beq (and2 (and2 (and2 (and2 (and2 (and2 (and2 (Za8 (and2 (and2 (and2 h).1).1).2 (Za0 hl))).2).1).1).1).1).1).1,eq_of_beq (and2 (and2 (and2 (and2 (and2 (and2 (and2 (Za8 (and2 (and2 (and2 h).1).1).2 (Za0 hl))).2).1).1).1).1).1).2,eq_of_beq (and2 (and2 (and2 (and2 (and2 (and2 (Za8 (and2 (and2 (and2 h).1).1).2 (Za0 hl))).2).1).1).1).1).2,eq_of_beq (and2 (and2 (and2 (and2 (and2 (Za8 (and2 (and2 (and2 h).1).1).2 (Za0 hl))).2).1).1).1).2,eq_of_beq (and2 (and2 (and2 (and2 (Za8 (and2 (and2 (and2 h).1).1).2 (Za0 hl))).2).1).1).2,eq_of_beq (and2 (and2 (and2 (Za8 (and2 (and2 (and2 h).1).1).2 (Za0 hl))).2).1).2,(and2 (and2 (Za8 (and2 (and2 (and2 h).1).1).2 (Za0 hl))).2).2⟩
 ·have q:=Za8 (and2 (and2 h).1).2 (Za0 hf)
  dsimp only at q
  split at q
  ·rename_i x hx;exact ⟨x,hx,Zze q⟩
  ·contradiction
noncomputable def Zfa (p:Addr) (ns:List Int):Zaa:=fun a=>if a=p then some (.script ns) else none
theorem Zv0 {vs:List Value} {ns:List Int} (h:IntsAre vs ns):VRs (ns.map AV.int) vs:=by
 induction h with
 | nil=>exact .nil
 | cons n t _ ih=>exact .cons (.int n t) ih
set_option tactic.hygienic true in
theorem enter {prog:Program} {w:World} {K:Frag} {P:Pg} {mg mb:Str→Option Value} {p:Program} {loose:List Str} {mean:ExcName→Option Value} {s₁:Shared} {fa sp:Addr} {vs:List Value} {ns:List Int} {n:Nat} {E:Value→Shared→Prop} {Q:Value→Shared→Prop} {nl:Str}
  (hn:n≤50) (KX:K.In s₁.heap) (T:Top p loose mean mg mb s₁.heap) (hseer:s₁.heap.NoSeer) (htree:prog.given.tree=none) (hnl:nl=Str.ofString "law") (hmg:mg nl=some (.ref fa)) (hok:Znv K P=true) (hlaw:P.gfns.contains "law" = true)
  (hget:s₁.heap.get? sp=some { cls:=.type "list",data:=.seq vs.toArray }) (hI:IntsAre vs ns)
  (hcall:∀ c:Cx,c.P=P→c.Ok mg mb→PgOk c→(∀ f F,P.fns.lookup f=some F→fnOk c.K P (c.fa f) F=true)→CallOK c n true "law" [.ref sp] (fun v _=>v = .bool true) (fun _ _=>False) (Zfa sp ns))
  (hq:∀ s',s₁.heap.StaysIn s'.heap→s'.os=s₁.os→s'.gens=s₁.gens→Q (.bool true) s'):wpAny (model prog w) callerA (call (.ref fa) [.ref sp]) Q E s₁:=by
 obtain ⟨PO,FO⟩:=Zvg (prog:=prog) (w:=w) (base:=s₁.heap) hok
 have C:(cxOf prog w K s₁.heap P).Ok mg mb:=⟨KX,T.g,T.b,T.nolimit,T.builtins,hseer,htree,p,loose,topRead_of T⟩
 have hfa:fa=(cxOf prog w K s₁.heap P).fa "law":=by
  have h1:=(PO.fn "law" hlaw).1
  have h2:=mg_of KX T.g h1
  rw [← hnl,hmg] at h2
  exact Value.ref.inj (Option.some.inj h2)
 have S:St (cxOf prog w K s₁.heap P) (fun _=>none) (Zfa sp ns) s₁.heap:=by
  have hs:∀ a o,Zfa sp ns a=some o→a=sp∧o = .script ns:=fun a o e=>by
   unfold Zfa at e
   split at e
   ·rename_i z;obtain rfl:=Option.some.inj e;exact ⟨z,rfl⟩
   ·contradiction
  refine ⟨_,(?_:St1 _ _ (Zfa sp ns) _),Real.raw fun a o e=>by refine rl ((hs a o e).2) ?_;rfl⟩
  refine ⟨fun _ _ e=>e,Nat.le_refl _,fun _ _ e=>(by contradiction),fun _=>0,⟨fun a o e=>?_,fun a o e=>?_,fun a cl es e=>?_,fun a b cl es cl' es' e=>?_⟩⟩
  ·obtain ⟨rfl,rfl⟩:=hs a o e
   exact ⟨vs,0,hget,Zv0 hI⟩
  ·obtain ⟨rfl,rfl⟩:=hs a o e
   exact ⟨⟨fun w=>(by contradiction),fun w=>(by contradiction)⟩,rfl⟩
  ·cases (hs a _ e).2
  ·cases (hs a _ e).2
 refine rl hfa ?_
 refine wpAny_call (hcall _ rfl C PO FO callerA [] (fun _=>none) s₁ [.ref sp] _ ⟨rfl,?_,?_,fun _=>rfl⟩ (fun e he=>by contradiction) S (.cons (.ref sp) .nil) ?_ ?_)
 ·show 1+300+110+0+8*n<1000;omega
 ·show 4+100+10*0+60*n<9900;omega
 ·rintro av v s' H' hv S' m rfl
  cases hv
  obtain ⟨h,tk,rfl⟩:=m
  exact hq _ S'.stays rfl rfl
 ·rintro e cl s' H' _ _ h;exact h.elim
end Mine
end
section
namespace Mine
structure Gd (c:Cx) (P:Pg):Prop where
 hP:c.P=P
 ok:∃ mg mb,c.Ok mg mb
 pg:PgOk c
 fn:∀ f F,P.fns.lookup f=some F→fnOk c.K P (c.fa f) F=true
theorem Gd.call {c:Cx} {P:Pg} (G:Gd c P) {n:Nat} {md:Bool} {f:String} {F:Fn} (hf:P.fns.lookup f=some F) {args:List AV} {Q:AV→Zaa→Prop} {E:String→Zaa→Prop} {H:Zaa} (hlen:args.length=F.npar)
  (q:wpSs ⟨c,n,md⟩ F.body (fun _ H=>Q .none H) Q (fun cl _ H=>E cl H) (Zfy F args) H):CallOK c (n+1) md f args Q E H:=by
 obtain ⟨mg,mb,C⟩:=G.ok
 have:=G.fn f F hf
 rw [← G.hP] at this
 exact Zof C G.pg this hlen q
section
variable {Q:AV→Zaa→Prop} {H:Zaa} {x y:Int} {a b:Str}
theorem Zct:wbin .Add (.int x) (.int y) Q H=Q (.int (x+y)) H:=rfl
theorem Zdm:wbin .Sub (.int x) (.int y) Q H=Q (.int (x - y)) H:=rfl
theorem Ze6:wbin .Mult (.int x) (.int y) Q H=(IntMulOk x y∧Q (.int (x*y)) H):=rfl
theorem Zcl:wbin .FloorDiv (.int x) (.int y) Q H=(y≠0∧Q (.int (x.fdiv y)) H):=rfl
theorem Zcq:wbin .Mod (.int x) (.int y) Q H=(y≠0∧Q (.int (x.fmod y)) H):=rfl
theorem Zfg:wbin .Pow (.int x) (.int y) Q H=((2≤x∧1≤y∧Builtin.Int.intTooBig (((Builtin.Int.intBits x:Nat):Int)*y)=false)∧Q (.int (x ^ y.toNat)) H):=rfl
theorem Zdr:wbin .Add (.str a) (.str b) Q H=(a.length+b.length≤sizeLine∧Q (.str (a++b)) H):=rfl
theorem c_lt:wcmp .Lt (.int x) (.int y) Q H=Q (.bool (decide (x<y))) H:=rfl
theorem c_le:wcmp .LtE (.int x) (.int y) Q H=Q (.bool (decide (x≤y))) H:=rfl
theorem c_gt:wcmp .Gt (.int x) (.int y) Q H=Q (.bool (decide (y<x))) H:=rfl
theorem c_ge:wcmp .GtE (.int x) (.int y) Q H=Q (.bool (decide (y≤x))) H:=rfl
theorem c_eq:wcmp .Eq (.int x) (.int y) Q H=Q (.bool (x==y)) H:=rfl
theorem c_ne:wcmp .NotEq (.int x) (.int y) Q H=Q (.bool (x != y)) H:=rfl
theorem Zdc:wcmp .Eq (.str a) (.str b) Q H=Q (.bool (a==b)) H:=rfl
theorem Ze5:wcmp .NotEq (.str a) (.str b) Q H=Q (.bool (a != b)) H:=rfl
theorem c_in {u v:AV}:wcmp .In u v Q H=win false u v Q H:=rfl
theorem Zd5 {u v:AV}:wcmp .NotIn u v Q H=win true u v Q H:=rfl
theorem Zag {H:Zaa} {P:Bool→Prop} {t:Bool}:Zbm (.bool t) H P=P t:=rfl
theorem Zfk {H:Zaa} {P:Bool→Prop} {i:Int}:Zbm (.int i) H P=P (i != 0):=rfl
theorem Zdo {H:Zaa} {P:Bool→Prop}:Zbm .none H P=P false:=rfl
end
theorem script_get {P:Params} {h:Heap} {sp:Addr} {xs:List PyData} {vs:List Value} (W:Well P h (.ref sp) (ofPy (.list xs))) (L:h.IsList sp vs.toArray):h.get? sp=some { cls:=.type "list",data:=.seq vs.toArray }:=by
 obtain ⟨o,ho,hc,n,hd⟩:=L
 rw [ofPy] at W
 cases W with
 | list h1 _=>rw [ho] at h1;cases h1;cases hd;exact ho
theorem scriptH_at {sp:Addr} {ns:List Int}:Zfa sp ns sp=some (.script ns):=by unfold Zfa;exact rl (if_pos rfl) rfl
end Mine
end
section
namespace Mine
noncomputable def Zwl (x:Obj):BT→BT
 | .nil=>.node x .nil .nil
 | .node y l r=>.node x (Zwl y r) l
noncomputable def ofL:List Obj→BT
 | []=>.nil
 | x::xs=>Zwl x (ofL xs)
theorem get_odd {v:Obj} {l r:BT} {k:Nat}:(BT.node v l r).get (2*k+1)=l.get k:=by
 rw [BT.get_node,if_neg (Nat.succ_ne_zero _),if_pos (Nat.mul_add_mod 2 k 1),show (2*k+1) / 2=k from Nat.mul_add_div (by decide) k 1]
theorem get_even {v:Obj} {l r:BT} {k:Nat}:(BT.node v l r).get (2*k+2)=r.get k:=by
 rw [BT.get_node,if_neg (Nat.succ_ne_zero _),if_neg (by rw [Nat.add_mod_right,Nat.mul_mod_right];decide),show (2*k+2) / 2 - 1=k by rw [Nat.add_div_right _ (by decide),Nat.mul_div_cancel_left _ (by decide)];rfl]
theorem Zqm:∀ i:Nat,i=0∨∃ k,i=2*k+1∨i=2*k+2
 | 0=>.inl rfl
 | 1=>.inr ⟨0,.inl rfl⟩
 | i+2=>.inr (match Zqm i with
  | .inl h=>⟨0,.inr (congrArg (· + 2) h)⟩
  | .inr ⟨k,.inl h⟩=>⟨k+1,.inl (congrArg (· + 2) h)⟩
  | .inr ⟨k,.inr h⟩=>⟨k+1,.inr (congrArg (· + 2) h)⟩)
theorem Zkm:∀ (t:BT) (x:Obj) (i:Nat),(Zwl x t).get i=if i=0 then some x else t.get (i - 1)
 | .nil,x,i=>by
  rcases Zqm i with rfl | ⟨k,rfl | rfl⟩
  ·rfl
  ·exact get_odd
  ·exact get_even
 | .node y l r,x,i=>by
  rcases Zqm i with rfl | ⟨k,rfl | rfl⟩
  ·rfl
  ·refine get_odd.trans ?_
   rw [Zkm r y,if_neg (Nat.succ_ne_zero _)]
   cases k with
   | zero=>rfl
   | succ j=>exact get_even.symm
  ·exact get_even.trans (get_odd (v:=y) (r:=r)).symm
theorem Zqo:∀ (l:List Obj) (i:Nat),(ofL l).get i=l[i]?
 | [],i=>by simp [ofL,BT.get]
 | x::xs,i=>by
  unfold ofL
  rw [Zkm,Zqo xs]
  cases i with
  | zero=>simp
  | succ n=>simp
theorem Zwq (h:Heap):absHeap (ofL h.objs.toList) h.objs.size h.life=h:=by
 obtain ⟨⟨l⟩,life⟩:=h
 unfold absHeap BT.list
 have:(List.range l.length).map (fun i=>((ofL l).get i).getD default)=l:=by
  apply List.ext_getElem?
  intro i
  rw [List.getElem?_map]
  by_cases h:i<l.length
  ·rw [List.getElem?_range h,Option.map_some,Zqo]
   simp [h]
  ·rw [List.getElem?_eq_none (by simpa using h),List.getElem?_eq_none (by omega)];rfl
 exact congrArg (fun x:List Obj=>Heap.mk x.toArray life) this
noncomputable def Zg2 (tb:String→Option Builtin) (p:Program) (w:World) (n₀:Nat) (ann:Option Value):Nat→SharedT→Thread→Option SharedT
 | 0,_,_=>none
 | n+1,s,t=>match through t with
  | true=>some s
  | false=>match stepOk n₀ ann t with
   | false=>none
   | true=>match stepT (denote tb) p w s t with
    | some (s',t')=>Zg2 tb p w n₀ ann n s' t'
    | none=>none
theorem Zjw {tb:String→Option Builtin} {p:Program} {w:World} {n₀:Nat} {ann:Option Value}:∀ {n:Nat} {s s':SharedT} {t:Thread},Zg2 tb p w n₀ ann n s t=some s'→topRun tb p w n₀ ann n s.abs t=some s'.abs
 | 0,_,_,_,h=>by cases h
 | n+1,s,s',t,h=>by
  unfold Zg2 at h
  unfold topRun
  cases he:through t with
  | true=>rw [he] at h;obtain rfl:=Option.some.inj h;rfl
  | false =>
   rw [he] at h
   cases hk:stepOk n₀ ann t with
   | false=>rw [hk] at h;cases h
   | true =>
    rw [hk] at h
    cases hs:stepT (denote tb) p w s t with
    | none=>rw [hs] at h;cases h
    | some r=>obtain ⟨s₂,t₂⟩:=r;rw [hs] at h;rw [stepT_spec hs];exact Zjw h
noncomputable def Ziy (p:Program) (w:World) (n₀:Nat) (ann:Option Value):Nat→SharedT→Thread→Option SharedT
 | 0,_,_=>none
 | n+1,s,t=>match through t with
  | true=>some s
  | false=>match Fast.tw6613529449190102663 n₀ ann t with
   | false=>none
   | true=>match Fast.tw10156331382660048174 (Fast.tw11892475500146522536 Fast.tw14364793385576792824) p w s t with
    | some (s',t')=>Ziy p w n₀ ann n s' t'
    | none=>none
theorem Zh6 {p:Program} {w:World} {n₀:Nat} {ann:Option Value}:∀ (n:Nat) (s:SharedT) (t:Thread),Ziy p w n₀ ann n s t=Zg2 treeTable p w n₀ ann n s t
 | 0,_,_=>rfl
 | n+1,s,t=>by
  rw [Ziy,Zg2,← Fast.te6613529449190102663,← Fast.te10156331382660048174,← Fast.te11892475500146522536,← Fast.te14364793385576792824]
  cases through t with
  | true=>rfl
  | false =>
   cases stepOk n₀ ann t with
   | false=>rfl
   | true =>
    cases stepT (denote treeTable) p w s t with
    | none=>rfl
    | some r=>exact Zh6 n r.1 r.2
noncomputable def Zwk (w:World) (os:OsState):SharedT:=⟨ofL (boot_heap w.params).objs.toList,(boot_heap w.params).objs.size,(boot_heap w.params).life,Array.mk [],boot_drawn,boot_toks,os⟩
theorem Zvt {p q:Program} {loose:List Str} {Xt:Shared→Bool} {α:Type} {Yf:Shared→α} {YT:SharedT→α} {Ya:World→α} {N:Nat} {g0:Bool} {ann:Option Value} {m₀:Nat} (hY:∀ s,Yf s.abs=YT s)
  (e:opening p=plainProg p.main.scope.names) (hN:Nat.ble 600 N=true) (f:∀ s,fenceModules? p s=some s)
  (size:∀ w:World,((boot_heap w.params).isNs mainGlobals,(boot_heap w.params).objs.size,(boot_heap w.params).nsMap mainGlobals "__annotations__")=(true,m₀,ann))
  (run:∀ (w:World) (os:OsState),(Ziy p w m₀ ann N (Zwk w os) (topStub p)).map (fun s =>
   (staticsOk (importedModules p.main.body) (boot_heap w.params) s.abs.heap&&namesBound p s.abs.heap&&gensDone s.abs&&laidKept (boot_heap w.params) s.abs.heap,Fast.tw4187177175401517315 q loose (importedModules p.main.body) Xt g0 s.abs,YT s))=some (true,openGood q loose,Ya w)) :
  LeftO p q loose Xt Yf Ya N g0:=fun w=>by
 obtain ⟨⟨h,gs,d,k,os⟩,e1,e2⟩:=Option.map_eq_some_iff.mp (boot_open e hN f w)
 obtain ⟨rfl,rfl,rfl,rfl⟩:h=boot_heap w.params∧gs=Array.mk []∧d=boot_drawn∧k=boot_toks:=by simpa using e2
 obtain ⟨z1,z2,z3⟩:_∧_∧_:=by simpa only [Prod.mk.injEq] using size w
 obtain ⟨s₁,r1,r2⟩:=Option.map_eq_some_iff.mp (run w os)
 obtain ⟨l1,l2,l3⟩:_∧_∧_:=by simpa only [Prod.mk.injEq] using r2
 rw [Zh6] at r1
 rw [← Fast.te4187177175401517315] at l2
 have r3:=Zjw r1
 have ab:(Zwk w os).abs=⟨boot_heap w.params,Array.mk [],boot_drawn,boot_toks,os⟩:=by
  unfold Zwk SharedT.abs
  rw [Zwq]
 rw [ab] at r3
 have t:topFrom treeTable p w N ⟨boot_heap w.params,Array.mk [],boot_drawn,boot_toks,os⟩=some s₁.abs:=by
  unfold topFrom
  dsimp only
  rw [z1,z2,z3,r3]
  show (match staticsOk (importedModules p.main.body) (boot_heap w.params) s₁.abs.heap&&namesBound p s₁.abs.heap&&gensDone s₁.abs&&laidKept (boot_heap w.params) s₁.abs.heap with | true=>_ | false=>_)=_
  rw [l1]
 unfold openEnds
 rw [e1]
 show (topFrom treeTable p w N _).map _=_
 rw [t]
 exact congrArg some (Prod.ext l2 ((hY s₁).trans l3))
end Mine
end
section
namespace Mine
noncomputable def Zko (h:Heap) (as:List Addr):Frag:=as.filterMap fun a=>(h.get? a).map fun o=>(a,o)
theorem Zqp {h:Heap} {as:List Addr}:(Zko h as).In h:=by
 intro a o e
 induction as with
 | nil=>cases e
 | cons b r ih =>
  unfold Zko at e ih
  rw [List.filterMap_cons] at e
  cases hb:h.get? b with
  | none=>rw [hb] at e;exact ih e
  | some ob =>
   rw [hb] at e
   simp only [Option.map_some] at e
   rw [List.lookup_cons] at e
   cases hab:a==b with
   | true=>rw [hab] at e;obtain rfl:=Option.some.inj e;refine rl (beq_iff_eq.mp hab) ?_;exact hb
   | false=>rw [hab] at e;exact ih e
theorem Ztv {t:BT} {n:Nat} {life:Life} {a:Nat}:(absHeap t n life).get? a=if a<n then alive ((t.get a).getD default) else none:=by
 unfold Heap.get?
 refine rl (absHeap_at ..) ?_
 by_cases h:a<n
 ·refine rl (if_pos h ..) (rl (if_pos h ..) ?_)
  generalize (t.get a).getD default=o
  obtain ⟨c,d,dt,sl⟩:=o
  cases dt<;>rfl
 ·exact rl (if_neg h) (rl (if_neg h) rfl)
noncomputable def Zn9 (t:BT) (n:Nat):List Addr→Frag
 | []=>[]
 | a::r=>match Nat.blt a n with
  | true=>(match alive ((t.get a).getD default) with
   | some o=>(a,o)::Zn9 t n r
   | none=>Zn9 t n r)
  | false=>Zn9 t n r
theorem Zm0 {t:BT} {n:Nat} {life:Life}:∀ {as:List Addr},Zko (absHeap t n life) as=Zn9 t n as
 | []=>rfl
 | a::r=>by
  have ih:=Zm0 (t:=t) (n:=n) (life:=life) (as:=r)
  unfold Zko at ih ⊢
  rw [List.filterMap_cons,Zn9,ih,Ztv]
  cases h:Nat.blt a n with
  | true =>
   rw [if_pos (show a<n from Nat.le_of_ble_eq_true h)]
   cases alive ((t.get a).getD default)<;>rfl
  | false =>
   rw [if_neg (fun q=>by rw [show Nat.blt a n=true from Nat.ble_eq_true_of_le q] at h;contradiction)]
   rfl
noncomputable def Zmn (P:Pg) (as:List Addr):Hook where
 α:=Bool
 obs s:=Znv (Zko s.heap as) P
 val _:=true
 says _ h:=∃ K:Frag,K.In h∧Znv K P=true
 of _ s e:=⟨_,Zqp,e⟩
 keeps _ _ _:=fun ⟨K,a,b⟩ k=>⟨K,Frag.In.keeps a k,b⟩
theorem Znx {P:Pg} {as:List Addr} (s:SharedT):(Zmn P as).obs s.abs=Znv (Zn9 s.tree s.n as) P:=congrArg (Znv · P) Zm0
end Mine
end
section
namespace Mine
noncomputable def Gh (H H':Zaa):Prop:=∀ H₁,Real H H₁→Real H' H₁
theorem Gh.refl {H:Zaa}:Gh H H:=fun _ r=>r
theorem Gh.less {H H':Zaa} (k:∀ a x,H' a=some x→H a=some x):Gh H H':=fun _ r=>r.less k
theorem St.gh {c:Cx} {R:RR} {H H':Zaa} {h:Heap} (S:St c R H h) (g:Gh H H'):St c R H' h:=let ⟨H₁,s,r⟩:=S;⟨H₁,s,g H₁ r⟩
theorem ExcSt.gh {c:Cx} {R:RR} {H H':Zaa} {e:Addr} {cl:String} {fl:Value} {h:Heap} (X:ExcSt c R H e cl fl h) (g:Gh H H'):ExcSt c R H' e cl fl h:=let ⟨H₁,s,r⟩:=X;⟨H₁,s,g H₁ r⟩
theorem CallOK.post {c:Cx} {n:Nat} {md:Bool} {f:String} {args:List AV} {Q Q':AV→Zaa→Prop} {E E':String→Zaa→Prop} {H:Zaa} (h:CallOK c n md f args Q E H) (k:∀ v H,Q v H→∃ H',Gh H H'∧Q' v H') (e:∀ cl H,E cl H→∃ H',Gh H H'∧E' cl H'):CallOK c n md f args Q' E' H :=
 fun A stk R s vals Rs a b d v p q=>h A stk R s vals Rs a b d v (fun av v s' H' x y z w=>let ⟨H'',g,w'⟩:=k _ _ w;p av v s' H'' x (y.gh g) z w') (fun ee cl s' H' x y z=>let ⟨H'',g,w'⟩:=e _ _ z;q ee cl s' H'' (x.gh g) y w')
structure Fr1 (o:Addr→Option Role) (H:Zaa) (o':Addr→Option Role) (H':Zaa):Prop where
 old:∀ a x,H a=some x→o a=none→H' a=some x∧o' a=none
 gr:∀ a,H' a=none→H a=none
theorem Zdn {H:Zaa} {x a:Addr} {y:AObj} (h:up H x y a=none):H a=none:=by
 by_cases e:a=x
 ·rw [e,Zac] at h;cases h
 ·rw [Zab e] at h;exact h
theorem Fr1.refl {o:Addr→Option Role} {H:Zaa}:Fr1 o H o H:=⟨fun _ _ h k=>⟨h,k⟩,fun _ h=>h⟩
theorem Fr1.trans {o o' o'':Addr→Option Role} {H H' H'':Zaa} (x:Fr1 o H o' H') (y:Fr1 o' H' o'' H''):Fr1 o H o'' H'':=⟨fun a z h k=>y.old a z (x.old a z h k).1 (x.old a z h k).2,fun a h=>x.gr a (y.gr a h)⟩
theorem Zbo {c:Cx} {n:Nat} {md:Bool} {f:String} {args:List AV} {Q:AV→Zaa→Prop} {E:String→Zaa→Prop} {H:Zaa} {b:Addr} {B:Bk} (hb:H b=some (.book B))
  (h:∀ H₂ o f' s p as,IsBook o H₂ b f' s p as B→(∀ a x,H a=some x→a≠b→H₂ a=some x∧o a=none) →
   CallOK c n md f args
    (fun v H'=>∃ o' f' s p as B',IsBook o' H' b f' s p as B'∧Fr1 o H₂ o' H'∧((∀ a,v≠.ref a)∧Q v (up H b (.book B'))∨∃ z xs,v = .ref z∧H z=none∧H' z=some (.list xs)∧o' z=none∧Q v (up (up H b (.book B')) z (.list xs))))
    (fun cl H'=>∃ o' f' s p as B',IsBook o' H' b f' s p as B'∧Fr1 o H₂ o' H'∧E cl (up H b (.book B'))) H₂):CallOK c n md f args Q E H:=by
 intro A stk R s vals Rs a1 a2 S a4 kQ kE
 obtain ⟨H₁,S1,r⟩:=S
 obtain ⟨H₂,o,f',sa,p,as,r2,ib,hold⟩:=r.unpack hb
 have back:∀ H' o' f' s p as B',IsBook o' H' b f' s p as B'→Fr1 o H₂ o' H'→Gh H' (up H b (.book B')):=fun H' o' f' s p as B' ib' fr H₁ r=>by
  refine r.pack ib' fun a x e=>?_
  by_cases z:a=b
  ·subst z;rw [Zac] at e;cases e;exact .inl ⟨rfl,rfl⟩
  ·rw [Zab z] at e
   obtain ⟨e1,e2⟩:=hold a x e z
   obtain ⟨e3,e4⟩:=fr.old a x e1 e2
   exact .inr ⟨z,e4,e3⟩
 refine (CallOK.post (h H₂ o f' sa p as ib hold) (fun v H' q=>?_) fun cl H' q=>?_) A stk R s vals Rs a1 a2 ⟨H₁,S1,r2⟩ a4 kQ kE
 ·obtain ⟨o',f',s,p,as,B',ib',fr,q | ⟨z,xs,rfl,hz,hz',ho,q⟩⟩:=q
  ·exact ⟨_,back _ _ _ _ _ _ _ ib' fr,q.2⟩
  ·refine ⟨_,fun H₁ r=>?_,q⟩
   refine r.pack ib' fun a x e=>?_
   have hzb:z≠b:=fun w=>by rw [w,hb] at hz;cases hz
   by_cases w:a=z
   ·subst w;rw [Zac] at e;cases e;exact .inr ⟨hzb,ho,hz'⟩
   ·rw [Zab w] at e
    by_cases y:a=b
    ·subst y;rw [Zac] at e;cases e;exact .inl ⟨rfl,rfl⟩
    ·rw [Zab y] at e
     obtain ⟨e1,e2⟩:=hold a x e y
     obtain ⟨e3,e4⟩:=fr.old a x e1 e2
     exact .inr ⟨y,e4,e3⟩
 ·obtain ⟨o',f',s,p,as,B',ib',fr,q⟩:=q
  exact ⟨_,back _ _ _ _ _ _ _ ib' fr,q⟩
end Mine
end
section
end
section
namespace Mine.BK
noncomputable def f_are_met:Fn:=⟨4,["names","needs","kept","done","found","name"],[
 .assign (.var 4) (.list []),
 .for (.var 5) (.var 0) [.ite (.cmp .Eq (.comp (.var 6) 1 false (.sub (.var 1) (.var 5)) (some (.ao true [(.cmp .NotIn (.var 6) (.var 2)),(.cmp .NotIn (.var 6) (.var 3))]))) (.list [])) [.expr (.bm (.var 4) .append [(.var 5)])] []],
 .ret (.var 4)]⟩
noncomputable def f_table_of:Fn:=⟨1,["names","table","name"],[
 .assign (.var 1) (.dict [] []),
 .for (.var 2) (.var 0) [.assign (.sub (.var 1) (.var 2)) (.lit (.bool true))],
 .ret (.var 1)]⟩
noncomputable def f_greatest:Fn:=⟨3,["full","needs","done","ready","names","found"],[
 .assign (.var 3) (.call "table_of" [(.var 2)]),
 .assign (.var 4) (.prim .list [(.var 0)]),
 .assign (.var 5) (.call "are_met" [(.var 4),(.var 1),(.call "table_of" [(.var 4)]),(.var 3)]),
 .while (.cmp .Lt (.prim .len [(.var 5)]) (.prim .len [(.var 4)])) [.assign (.var 4) (.var 5),
  .assign (.var 5) (.call "are_met" [(.var 4),(.var 1),(.call "table_of" [(.var 4)]),(.var 3)])],
 .ret (.var 5)]⟩
noncomputable def f_chain:Fn:=⟨4,["name","full","needs","done","ready","whole","ways","seen","place","way","last","one"],[
 .assign (.var 4) (.call "table_of" [(.var 3)]),
 .ite (.ao false [(.cmp .In (.var 0) (.var 4)),(.cmp .In (.var 0) (.call "greatest" [(.var 1),(.var 2),(.var 3)]))]) [.ret (.list [])] [],
 .assign (.var 5) (.call "table_of" [(.var 1)]),
 .assign (.var 6) (.list [(.list [(.var 0)])]),
 .assign (.var 7) (.dict [(.var 0)] [(.lit (.bool true))]),
 .assign (.var 8) (.lit (.int 0)),
 .while (.cmp .Lt (.var 8) (.prim .len [(.var 6)])) [.assign (.var 9) (.sub (.var 6) (.var 8)),
  .assign (.var 10) (.sub (.var 9) (.neg (.lit (.int 1)))),
  .ite (.cmp .NotIn (.var 10) (.var 5)) [.ret (.prim .list [(.var 9)])] [],
  .for (.var 11) (.sub (.var 2) (.var 10)) [.ite (.ao true [(.cmp .NotIn (.var 11) (.var 7)),(.cmp .NotIn (.var 11) (.var 4))]) [.assign (.sub (.var 7) (.var 11)) (.lit (.bool true)),
    .expr (.bm (.var 6) .append [(.bin .Add (.var 9) (.list [(.var 11)]))])] []],
  .assign (.var 8) (.bin .Add (.var 8) (.lit (.int 1)))],
 .ret (.list [])]⟩
noncomputable def f_is_whole:Fn:=⟨1,["thing"],[
 .ret (.ao true [(.isinst (.var 0) "int"),(.not (.isinst (.var 0) "bool"))])]⟩
noncomputable def f_is_name:Fn:=⟨1,["thing","sign"],[
 .ite (.ao false [(.not (.isinst (.var 0) "str")),(.not (.cmp2 .LtE .LtE (.lit (.int 1)) (.prim .len [(.var 0)]) (.glob "MOST_SIGNS")))]) [.ret (.lit (.bool false))] [],
 .for (.var 1) (.var 0) [.ite (.cmp .NotIn (.var 1) (.glob "LETTERS")) [.ret (.lit (.bool false))] []],
 .ret (.lit (.bool true))]⟩
noncomputable def f_name_of:Fn:=⟨1,["thing"],[
 .ite (.not (.call "is_name" [(.var 0)])) [.raise "NoName" (Str.ofString "no name")] [],
 .ret (.var 0)]⟩
noncomputable def f_amount_of:Fn:=⟨1,["thing"],[
 .ite (.ao false [(.not (.call "is_whole" [(.var 0)])),(.not (.cmp2 .LtE .LtE (.lit (.int 1)) (.var 0) (.glob "MOST_AMOUNT")))]) [.raise "NoAmount" (Str.ofString "no amount")] [],
 .ret (.var 0)]⟩
noncomputable def f_Pact___init__:Fn:=⟨6,["self","name","parts","gains","needs","last"],[
 .assign (.attr (.var 0) "name") (.var 1),
 .assign (.attr (.var 0) "parts") (.var 2),
 .assign (.attr (.var 0) "gains") (.var 3),
 .assign (.attr (.var 0) "needs") (.var 4),
 .assign (.attr (.var 0) "last") (.var 5),
 .assign (.attr (.var 0) "state") (.lit (.str (Str.ofString "open"))),
 .assign (.attr (.var 0) "inside") (.dict [] [])]⟩
noncomputable def f_Pact_part_of:Fn:=⟨2,["self","purse","pair"],[
 .for (.var 2) (.attr (.var 0) "parts") [.ite (.cmp .Eq (.sub (.var 2) (.lit (.int 0))) (.var 1)) [.ret (.sub (.var 2) (.lit (.int 1)))] []],
 .ret (.lit .none)]⟩
noncomputable def f_Pact_is_full:Fn:=⟨1,["self"],[
 .ret (.ao true [(.cmp .Eq (.attr (.var 0) "state") (.lit (.str (Str.ofString "open")))),(.cmp .Eq (.prim .len [(.attr (.var 0) "inside")]) (.prim .len [(.attr (.var 0) "parts")]))])]⟩
noncomputable def f_Book___init__:Fn:=⟨1,["self"],[
 .assign (.attr (.var 0) "day") (.lit (.int 0)),
 .assign (.attr (.var 0) "free") (.dict [] []),
 .assign (.attr (.var 0) "aside") (.dict [] []),
 .assign (.attr (.var 0) "pacts") (.dict [] [])]⟩
noncomputable def f_Book_need_purse:Fn:=⟨2,["self","purse"],[
 .ite (.ao false [(.not (.call "is_name" [(.var 1)])),(.cmp .NotIn (.var 1) (.attr (.var 0) "free"))]) [.raise "NoPurse" (Str.ofString "no such purse")] []]⟩
noncomputable def f_Book_need_pact:Fn:=⟨2,["self","pact"],[
 .ite (.ao false [(.not (.call "is_name" [(.var 1)])),(.cmp .NotIn (.var 1) (.attr (.var 0) "pacts"))]) [.raise "NoPact" (Str.ofString "no such pact")] [],
 .ret (.sub (.attr (.var 0) "pacts") (.var 1))]⟩
noncomputable def f_Book_need_open:Fn:=⟨2,["self","pact","found"],[
 .assign (.var 2) (.meth (.var 0) "need_pact" [(.var 1)]),
 .ite (.cmp .NotEq (.attr (.var 2) "state") (.lit (.str (Str.ofString "open")))) [.raise "NotOpen" (Str.ofString "the pact isn't open")] [],
 .ret (.var 2)]⟩
noncomputable def f_Book_open_purse:Fn:=⟨2,["self","name"],[
 .expr (.call "name_of" [(.var 1)]),
 .ite (.cmp .In (.var 1) (.attr (.var 0) "free")) [.raise "Taken" (Str.ofString "there is such a purse")] [],
 .assign (.sub (.attr (.var 0) "free") (.var 1)) (.lit (.int 0)),
 .assign (.sub (.attr (.var 0) "aside") (.var 1)) (.lit (.int 0))]⟩
noncomputable def f_Book_put:Fn:=⟨3,["self","purse","amount"],[
 .expr (.meth (.var 0) "need_purse" [(.var 1)]),
 .assign (.sub (.attr (.var 0) "free") (.var 1)) (.bin .Add (.sub (.attr (.var 0) "free") (.var 1)) (.call "amount_of" [(.var 2)]))]⟩
noncomputable def f_Book_take:Fn:=⟨3,["self","purse","amount"],[
 .expr (.meth (.var 0) "need_purse" [(.var 1)]),
 .expr (.call "amount_of" [(.var 2)]),
 .ite (.cmp .Lt (.sub (.attr (.var 0) "free") (.var 1)) (.var 2)) [.raise "TooLittle" (Str.ofString "less is free")] [],
 .assign (.sub (.attr (.var 0) "free") (.var 1)) (.bin .Sub (.sub (.attr (.var 0) "free") (.var 1)) (.var 2))]⟩
noncomputable def f_Book_pairs_of:Fn:=⟨2,["self","pairs","found","seen","pair"],[
 .ite (.not (.cmp2 .LtE .LtE (.lit (.int 1)) (.prim .len [(.var 1)]) (.glob "MOST"))) [.raise "NoRow" (Str.ofString "one to eight pairs are wanted")] [],
 .assign (.var 2) (.list []),
 .assign (.var 3) (.dict [] []),
 .for (.var 4) (.var 1) [.expr (.meth (.var 0) "need_purse" [(.sub (.var 4) (.lit (.int 0)))]),
  .ite (.cmp .In (.sub (.var 4) (.lit (.int 0))) (.var 3)) [.raise "Twice" (Str.ofString "a purse stands twice")] [],
  .assign (.sub (.var 3) (.sub (.var 4) (.lit (.int 0)))) (.lit (.bool true)),
  .expr (.bm (.var 2) .append [(.tuple [(.sub (.var 4) (.lit (.int 0))),(.call "amount_of" [(.sub (.var 4) (.lit (.int 1)))])])])],
 .ret (.var 2)]⟩
noncomputable def f_Book_needs_of:Fn:=⟨3,["self","name","needs","seen","one"],[
 .ite (.cmp .Gt (.prim .len [(.var 2)]) (.glob "MOST")) [.raise "NoRow" (Str.ofString "up to eight needs are wanted")] [],
 .assign (.var 3) (.dict [(.var 1)] [(.lit (.bool true))]),
 .for (.var 4) (.var 2) [.expr (.call "name_of" [(.var 4)]),
  .ite (.cmp .In (.var 4) (.var 3)) [.raise "Twice" (Str.ofString "a need stands twice")] [],
  .assign (.sub (.var 3) (.var 4)) (.lit (.bool true)),
  .ite (.ao true [(.cmp .In (.var 4) (.attr (.var 0) "pacts")),(.cmp .Eq (.attr (.sub (.attr (.var 0) "pacts") (.var 4)) "state") (.lit (.str (Str.ofString "fallen"))))]) [.raise "Fallen" (Str.ofString "a need has fallen")] []],
 .ret (.prim .list [(.var 2)])]⟩
noncomputable def f_Book_tell:Fn:=⟨6,["self","name","parts","gains","needs","last","ones","others","wanted"],[
 .expr (.call "name_of" [(.var 1)]),
 .ite (.cmp .In (.var 1) (.attr (.var 0) "pacts")) [.raise "Taken" (Str.ofString "there is such a pact")] [],
 .assign (.var 6) (.meth (.var 0) "pairs_of" [(.var 2)]),
 .assign (.var 7) (.meth (.var 0) "pairs_of" [(.var 3)]),
 .ite (.cmp .NotEq (.prim .sum [(.comp (.sub (.var 9) (.lit (.int 1))) 1 false (.var 6) none)]) (.prim .sum [(.comp (.sub (.var 9) (.lit (.int 1))) 1 false (.var 7) none)])) [.raise "Uneven" (Str.ofString "parts and gains come to different sums")] [],
 .assign (.var 8) (.meth (.var 0) "needs_of" [(.var 1),(.var 4)]),
 .ite (.ao false [(.not (.call "is_whole" [(.var 5)])),(.cmp .Lt (.var 5) (.attr (.var 0) "day"))]) [.raise "NoDay" (Str.ofString "no day from now on")] [],
 .assign (.sub (.attr (.var 0) "pacts") (.var 1)) (.new "Pact" [(.var 1),(.var 6),(.var 7),(.var 8),(.var 5)])]⟩
noncomputable def f_Book_set_aside:Fn:=⟨3,["self","purse","pact","found","amount"],[
 .expr (.meth (.var 0) "need_purse" [(.var 1)]),
 .assign (.var 3) (.meth (.var 0) "need_open" [(.var 2)]),
 .assign (.var 4) (.meth (.var 3) "part_of" [(.var 1)]),
 .ite (.cmp .Is (.var 4) (.lit .none)) [.raise "NoPart" (Str.ofString "the pact has no part of that purse")] [],
 .ite (.cmp .In (.var 1) (.attr (.var 3) "inside")) [.raise "Already" (Str.ofString "the part is set aside already")] [],
 .ite (.cmp .Lt (.sub (.attr (.var 0) "free") (.var 1)) (.var 4)) [.raise "TooLittle" (Str.ofString "less is free")] [],
 .assign (.sub (.attr (.var 3) "inside") (.var 1)) (.lit (.bool true)),
 .assign (.sub (.attr (.var 0) "free") (.var 1)) (.bin .Sub (.sub (.attr (.var 0) "free") (.var 1)) (.var 4)),
 .assign (.sub (.attr (.var 0) "aside") (.var 1)) (.bin .Add (.sub (.attr (.var 0) "aside") (.var 1)) (.var 4))]⟩
noncomputable def f_Book_given_back:Fn:=⟨3,["self","purse","amount"],[
 .assign (.sub (.attr (.var 0) "aside") (.var 1)) (.bin .Sub (.sub (.attr (.var 0) "aside") (.var 1)) (.var 2)),
 .assign (.sub (.attr (.var 0) "free") (.var 1)) (.bin .Add (.sub (.attr (.var 0) "free") (.var 1)) (.var 2))]⟩
noncomputable def f_Book_draw_back:Fn:=⟨3,["self","purse","pact","found"],[
 .expr (.meth (.var 0) "need_purse" [(.var 1)]),
 .assign (.var 3) (.meth (.var 0) "need_open" [(.var 2)]),
 .ite (.cmp .NotIn (.var 1) (.attr (.var 3) "inside")) [.raise "NotAside" (Str.ofString "nothing of that purse is set aside")] [],
 .expr (.bm (.attr (.var 3) "inside") .pop [(.var 1)]),
 .expr (.meth (.var 0) "given_back" [(.var 1),(.meth (.var 3) "part_of" [(.var 1)])])]⟩
noncomputable def f_Book_fell:Fn:=⟨2,["self","pact","pair"],[
 .for (.var 2) (.attr (.var 1) "parts") [.ite (.cmp .In (.sub (.var 2) (.lit (.int 0))) (.attr (.var 1) "inside")) [.expr (.meth (.var 0) "given_back" [(.sub (.var 2) (.lit (.int 0))),(.sub (.var 2) (.lit (.int 1)))])] []],
 .assign (.attr (.var 1) "inside") (.dict [] []),
 .assign (.attr (.var 1) "state") (.lit (.str (Str.ofString "fallen"))),
 .ret (.attr (.var 1) "name")]⟩
noncomputable def f_Book_first_dragged:Fn:=⟨1,["self","pact","need"],[
 .for (.var 1) (.prim .list [(.bm (.attr (.var 0) "pacts") .values [])]) [.ite (.cmp .Eq (.attr (.var 1) "state") (.lit (.str (Str.ofString "open")))) [.for (.var 2) (.attr (.var 1) "needs") [.ite (.ao true [(.cmp .In (.var 2) (.attr (.var 0) "pacts")),(.cmp .Eq (.attr (.sub (.attr (.var 0) "pacts") (.var 2)) "state") (.lit (.str (Str.ofString "fallen"))))]) [.ret (.var 1)] []]] []],
 .ret (.lit .none)]⟩
noncomputable def f_Book_dragged:Fn:=⟨2,["self","names","found","pact"],[
 .assign (.var 2) (.prim .list [(.var 1)]),
 .assign (.var 3) (.meth (.var 0) "first_dragged" []),
 .while (.cmp .IsNot (.var 3) (.lit .none)) [.expr (.bm (.var 2) .append [(.meth (.var 0) "fell" [(.var 3)])]),
  .assign (.var 3) (.meth (.var 0) "first_dragged" [])],
 .ret (.var 2)]⟩
noncomputable def f_Book_call_off:Fn:=⟨2,["self","pact"],[
 .ret (.meth (.var 0) "dragged" [(.list [(.meth (.var 0) "fell" [(.meth (.var 0) "need_open" [(.var 1)])])])])]⟩
noncomputable def f_Book_standing:Fn:=⟨1,["self","ready","needs","done","pact"],[
 .assign (.var 1) (.list []),
 .assign (.var 2) (.dict [] []),
 .assign (.var 3) (.list []),
 .for (.var 4) (.prim .list [(.bm (.attr (.var 0) "pacts") .values [])]) [.ite (.meth (.var 4) "is_full" []) [.expr (.bm (.var 1) .append [(.attr (.var 4) "name")]),
   .assign (.sub (.var 2) (.attr (.var 4) "name")) (.prim .list [(.attr (.var 4) "needs")])] [],
  .ite (.cmp .Eq (.attr (.var 4) "state") (.lit (.str (Str.ofString "done")))) [.expr (.bm (.var 3) .append [(.attr (.var 4) "name")])] []],
 .ret (.tuple [(.var 1),(.var 2),(.var 3)])]⟩
noncomputable def f_Book_settle:Fn:=⟨1,["self","found","names","name","pact","pair"],[
 .assign (.var 1) (.meth (.var 0) "standing" []),
 .assign (.var 2) (.call "greatest" [(.sub (.var 1) (.lit (.int 0))),(.sub (.var 1) (.lit (.int 1))),(.sub (.var 1) (.lit (.int 2)))]),
 .for (.var 3) (.var 2) [.assign (.var 4) (.sub (.attr (.var 0) "pacts") (.var 3)),
  .for (.var 5) (.attr (.var 4) "parts") [.assign (.sub (.attr (.var 0) "aside") (.sub (.var 5) (.lit (.int 0)))) (.bin .Sub (.sub (.attr (.var 0) "aside") (.sub (.var 5) (.lit (.int 0)))) (.sub (.var 5) (.lit (.int 1))))],
  .for (.var 5) (.attr (.var 4) "gains") [.assign (.sub (.attr (.var 0) "free") (.sub (.var 5) (.lit (.int 0)))) (.bin .Add (.sub (.attr (.var 0) "free") (.sub (.var 5) (.lit (.int 0)))) (.sub (.var 5) (.lit (.int 1))))],
  .assign (.attr (.var 4) "inside") (.dict [] []),
  .assign (.attr (.var 4) "state") (.lit (.str (Str.ofString "done")))],
 .ret (.var 2)]⟩
noncomputable def f_Book_why_not:Fn:=⟨2,["self","pact","found"],[
 .expr (.meth (.var 0) "need_pact" [(.var 1)]),
 .assign (.var 2) (.meth (.var 0) "standing" []),
 .ret (.call "chain" [(.var 1),(.sub (.var 2) (.lit (.int 0))),(.sub (.var 2) (.lit (.int 1))),(.sub (.var 2) (.lit (.int 2)))])]⟩
noncomputable def f_Book_purses:Fn:=⟨1,["self"],[
 .ret (.prim .list [(.attr (.var 0) "free")])]⟩
noncomputable def f_Book_told:Fn:=⟨1,["self"],[
 .ret (.prim .list [(.attr (.var 0) "pacts")])]⟩
noncomputable def f_Book_free_of:Fn:=⟨2,["self","purse"],[
 .expr (.meth (.var 0) "need_purse" [(.var 1)]),
 .ret (.sub (.attr (.var 0) "free") (.var 1))]⟩
noncomputable def f_Book_aside_of:Fn:=⟨2,["self","purse"],[
 .expr (.meth (.var 0) "need_purse" [(.var 1)]),
 .ret (.sub (.attr (.var 0) "aside") (.var 1))]⟩
noncomputable def f_Book_state_of:Fn:=⟨2,["self","pact"],[
 .ret (.attr (.meth (.var 0) "need_pact" [(.var 1)]) "state")]⟩
noncomputable def f_Book_inside_of:Fn:=⟨2,["self","pact","found"],[
 .assign (.var 2) (.meth (.var 0) "need_pact" [(.var 1)]),
 .ret (.comp (.sub (.var 3) (.lit (.int 0))) 1 false (.attr (.var 2) "parts") (some (.cmp .In (.sub (.var 3) (.lit (.int 0))) (.attr (.var 2) "inside"))))]⟩
noncomputable def f_Book_full:Fn:=⟨2,["self","pact"],[
 .ret (.meth (.meth (.var 0) "need_pact" [(.var 1)]) "is_full" [])]⟩
noncomputable def f__law_cell_at:Fn:=⟨2,["_law_script","_law_k"],[
 .ite (.cmp .Lt (.var 1) (.prim .len [(.var 0)])) [.ret (.sub (.var 0) (.var 1))] [],
 .ret (.lit (.int 0))]⟩
noncomputable def f__law_mixed:Fn:=⟨2,["_law_number","_law_k"],[
 .ret (.bin .Mod (.bin .Add (.bin .Add (.bin .Mult (.var 0) (.lit (.int 6364136223846793005))) (.bin .Mult (.var 1) (.lit (.int 1442695040888963407)))) (.lit (.int 1013904223))) (.lit (.int 2305843009213693951)))]⟩
noncomputable def f__law_whole:Fn:=⟨1,["_law_found"],[
 .ret (.ao true [(.isinst (.var 0) "int"),(.not (.isinst (.var 0) "bool"))])]⟩
end Mine.BK
namespace Mine.BK
noncomputable def consts:List (String×AV):=[("LETTERS",(.str (Str.ofString "abcdefghijklmnopqrstuvwxyz"))),("MOST_SIGNS",(.int 12)),("MOST_AMOUNT",(.int 1000000000000000000000000000000)),("MOST",(.int 8))]
noncomputable def meths:List (String×String):=[("Pact","__init__"),("Pact","part_of"),("Pact","is_full"),("Book","__init__"),("Book","need_purse"),("Book","need_pact"),("Book","need_open"),("Book","open_purse"),("Book","put"),("Book","take"),("Book","pairs_of"),("Book","needs_of"),("Book","tell"),("Book","set_aside"),("Book","given_back"),("Book","draw_back"),("Book","fell"),("Book","first_dragged"),("Book","dragged"),("Book","call_off"),("Book","pass_days"),("Book","standing"),("Book","settle"),("Book","why_not"),("Book","purses"),("Book","told"),("Book","free_of"),("Book","aside_of"),("Book","state_of"),("Book","inside_of"),("Book","full")]
noncomputable def attrs:List (String×String):=[("Book","aside"),("Book","day"),("Book","free"),("Book","pacts"),("Pact","gains"),("Pact","inside"),("Pact","last"),("Pact","name"),("Pact","needs"),("Pact","parts"),("Pact","state")]
end Mine.BK
namespace Mine
structure HasA (P:Pg):Prop where
 meths:P.meths=BK.meths
 attrs:P.attrs=BK.attrs
 consts:P.consts=BK.consts
 is_whole:P.fns.lookup "is_whole" = some BK.f_is_whole
 is_name:P.fns.lookup "is_name" = some BK.f_is_name
 name_of:P.fns.lookup "name_of" = some BK.f_name_of
 amount_of:P.fns.lookup "amount_of" = some BK.f_amount_of
 init:P.fns.lookup "Book.__init__" = some BK.f_Book___init__
 need_purse:P.fns.lookup "Book.need_purse" = some BK.f_Book_need_purse
 open_purse:P.fns.lookup "Book.open_purse" = some BK.f_Book_open_purse
 put:P.fns.lookup "Book.put" = some BK.f_Book_put
 purses:P.fns.lookup "Book.purses" = some BK.f_Book_purses
 told:P.fns.lookup "Book.told" = some BK.f_Book_told
 free_of:P.fns.lookup "Book.free_of" = some BK.f_Book_free_of
noncomputable def Zdu:AV→Bool
 | .str s=>isNm s
 | _=>false
noncomputable def Zjr:AV→Bool
 | .int _=>true
 | _=>false
noncomputable def Zci:AV→Bool
 | .int i=>decide (1≤i∧i≤1000000000000000000000000000000)
 | _=>false
noncomputable def Kn (H:Zaa) (v:AV):Prop:=(∃ k,Ze4 H v=some k)∧∀ s,v = .str s→s.length<2 ^ 62
theorem wfor {QN:VV→Zaa→Prop} {stp:AV→(VV→Zaa→Prop)→VV→Zaa→Prop} {v:AV} {V:VV} {H:Zaa} {xs:List AV} (hx:Zap H v=some xs) (I:Nat→VV→Zaa→Prop) (h0:I 0 V H)
  (hs:∀ k V' H',I k V' H'→Zed H H' v∧(k=xs.length→QN V' H')∧∀ x,xs[k]? = some x→stp x (I (k+1)) V' H'):WFor QN stp v V H:=⟨xs,hx,I,h0,hs⟩
section
variable {c:Cx} {P:Pg} (G:Gd c P) (U:HasA P) {n:Nat} {md:Bool} {Q:AV→Zaa→Prop} {E:String→Zaa→Prop} {H:Zaa}
theorem Zs5 {v:AV} (h:Ze4 H v=some "str"):∃ s,v = .str s:=by
 cases v with
 | str s=>exact ⟨s,rfl⟩
 | ref a=>simp only [Ze4] at h;split at h<;>simp at h
 | _=>simp [Ze4] at h
theorem Zss {v:AV} {k:String} (hk:Ze4 H v=some k) (h:k≠"str"):Zdu v=false:=by
 cases v with
 | str s=>simp [Ze4] at hk;exact absurd hk.symm h
 | _=>rfl
theorem Zzo {g:Gx} (hmd:g.md=true) {s:Str} {e:X} {V:VV} {QN:VV→Zaa→Prop} {E:String→VV→Zaa→Prop} (he:∀ V H Q E,wpX g e V Q E H=Q (.str letters) H) (hV:V=[some (.str s),none]) (h1:(s.cps.toList.all fun ch=>letters.cps.toList.contains ch)=true→∀ a,QN [some (.str s),a] H) (h2:(s.cps.toList.all fun ch=>letters.cps.toList.contains ch)=false→Q (.bool false) H) :
  wpS g (.for (.var 1) (.var 0) [.ite (.cmp .NotIn (.var 1) e) [.ret (.lit (.bool false))] []]) QN Q E V H:=by
 subst hV
 simp only [Zay,Zbh,Zam,Zar,Za4,Zb3,Zbv,Zdg,Zcv]
 refine ⟨hmd,?_⟩
 dsimp only [v_0,Zai,Zad,Zau,Zbq,Zba,x_ao,Zbp,Zan,Za2,Zat,Zas,Za1,Zao,Zal,x_bm,Zbn,Zaz,Zbj,Zaq,Zah,Zae,Za7,Zav,Zb9,Zb0,Zb1,Zbs,tv,tsub,tattr,wtg,Zct,Zdm,Ze6,Zcl,Zcq,Zfg,Zdr,c_lt,c_le,c_gt,c_ge,c_eq,c_ne,Zdc,Ze5,c_in,Zd5,Zag,Zfk,Zdo,Zaw,Zeg,Zay,Zbh,Zam,Zar,Za4]
 refine wfor (xs:=s.cps.toList.map fun ch=>AV.str ⟨#[ch]⟩) rfl (fun k V' H'=>H'=H∧(∃ a,V'=[some (.str s),a])∧∀ ch∈s.cps.toList.take k,letters.cps.toList.contains ch=true) ⟨rfl,⟨_,rfl⟩,by simp⟩ ?_
 rintro k V' H' ⟨rfl,⟨a,rfl⟩,hin⟩
 refine ⟨trivial,fun hk=>h1 ?_ a,fun x hx=>?_⟩
 ·rw [hk,List.length_map,List.take_length] at hin
  rw [List.all_eq_true];exact hin
 ·rw [List.getElem?_map,Option.map_eq_some_iff] at hx
  obtain ⟨ch,hch,rfl⟩:=hx
  dsimp only [List.length_cons,List.length_nil,Nat.reduceAdd,List.set_cons_succ,List.set_cons_zero,List.getElem?_cons_succ,v_0];simp [he,v_0,Zai,Zad,Zau,Zbq,Zba,x_ao,Zbp,Zan,Za2,Zat,Zas,Za1,Zao,Zal,x_bm,Zbn,Zaz,Zbj,Zaq,Zah,Zae,Za7,Zav,Zb9,Zb0,Zb1,Zbs,tv,tsub,tattr,wtg,Zct,Zdm,Ze6,Zcl,Zcq,Zfg,Zdr,c_lt,c_le,c_gt,c_ge,c_eq,c_ne,Zdc,Ze5,c_in,Zd5,Zag,Zfk,Zdo,Zaw,Zeg,Zay,Zbh,Zam,Zar,Za4]
  refine ⟨ch,rfl,?_⟩
  cases hc:letters.cps.toList.contains ch with
  | true =>
   simp only [Zag]
   simp
   intro ch' hch'
   rw [List.take_add_one,hch] at hch'
   rcases List.mem_append.mp hch' with h | h
   ·simpa using hin ch' h
   ·simp at h;subst h;simpa using hc
  | false =>
   simp only [Zag]
   simp
   apply h2
   rw [List.all_eq_false]
   exact ⟨ch,List.mem_of_getElem? hch,by rw [hc];simp⟩
theorem Zmq {P:Pg} {v:AV} {k ty:String} (hk:Ze4 H v=some k) (ht:ty = "int"∨ty = "bool"∨ty = "str"∨ty = "list"):Zbx P H v ty=some (k==ty||(k=="bool"&&ty=="int")):=by
 unfold Zbx
 rw [if_pos ht,hk];rfl
theorem Zoi {g:Gx} {V:VV} {i:Nat} {v:AV} {ty:String} {b:Bool} (hV:V[i]? = some (some v)) (h:Zbx g.c.P H v ty=some b) (q:Q (.bool b) H):wpX g (.isinst (.var i) ty) V Q E H:=by
 rw [Zbn,Zad,hV]
 show match Zbx g.c.P H v ty with | some b=>Q (.bool b) H | none=>False
 rw [h];exact q
theorem x_gl {g:Gx} {V:VV} {n:String} {v:AV} (h:g.c.P.consts.lookup n=some v) (q:Q v H):wpX g (.glob n) V Q E H:=by
 rw [Za1,h];exact q
include G U
theorem Zf9 {v:AV} (hk:Kn H v) (q:Q (.bool (Zdu v)) H):CallOK c (n+1) true "is_name" [v] Q E H:=by
 obtain ⟨⟨k,hk⟩,hl⟩:=hk
 refine G.call (F:=BK.f_is_name) U.is_name rfl ?_
 have hg:c.P.consts.lookup "MOST_SIGNS" = some (.int 12):=by rw [G.hP,U.consts];rfl
 have hg2:c.P.consts.lookup "LETTERS" = some (.str letters):=by rw [G.hP,U.consts];rfl
 have hi:=Zmq (P:=c.P) (ty:="str") hk (.inr (.inr (.inl rfl)))
 show wpSs _ _ _ _ _ [some v,none] _
 refine w_st fun K nx=>?_
 rw [Zay,x_ao,Zav,Zba]
 by_cases hks:k = "str"
 ·subst hks
  obtain ⟨s,rfl⟩:=Zs5 hk
  have hl:=hl s rfl
  refine Zoi (b:=true) rfl hi ?_
  rw [Zag]
  show wpAO _ false [_] _ _ _ _
  rw [Za7,Zba,Za2,Zai,Zal,Zae,Zad]
  show wpXs _ [] _ _ _ _
  rw [Zah,Zj9]
  refine ⟨hl,?_⟩
  rw [c_le,Zag]
  by_cases a:(1:Int)≤s.length
  ·rw [decide_eq_true a,if_pos rfl]
   refine x_gl hg ?_
   rw [c_le,Zag]
   by_cases b:(s.length:Int)≤12
   ·rw [decide_eq_true b]
    refine nx _ _ ?_
    refine w_st fun K nx=>?_
    refine Zzo rfl (fun V H Q E=>by rw [Za1,hg2]) rfl (fun h a'=>nx _ _ ?_) (fun h=>?_)
    ·have:Zdu (.str s)=true:=by show isNm s=true;unfold isNm;rw [h,Bool.and_true];exact decide_eq_true ⟨by lia,by lia⟩
     rw [this] at q;exact q
    ·have:Zdu (.str s)=false:=by show isNm s=false;unfold isNm;rw [h,Bool.and_false]
     rw [this] at q;exact q
   ·rw [decide_eq_false b]
    have:Zdu (.str s)=false:=by show isNm s=false;unfold isNm;rw [decide_eq_false (by lia),Bool.false_and]
    rw [this] at q;exact q
  ·rw [decide_eq_false a,if_neg Bool.false_ne_true]
   have:Zdu (.str s)=false:=by show isNm s=false;unfold isNm;rw [decide_eq_false (by lia),Bool.false_and]
   rw [this] at q;exact q
 ·refine Zoi (b:=false) rfl (by rw [hi,show (k=="str")=false from beq_false_of_ne hks];show some (false||(k=="bool"&&false))=some false;rw [Bool.and_false];rfl) ?_
  rw [Zss hk hks] at q
  exact q
theorem Zlu {v:AV} (hk:Kn H v) (q:if Zdu v then Q v H else E "NoName" H):CallOK c (n+2) true "name_of" [v] Q E H:=by
 refine G.call (F:=BK.f_name_of) U.name_of rfl ?_
 show wpSs _ _ _ _ _ [some v] _
 refine w_st fun K nx=>?_
 rw [Zay,Zba,Zao,Zae,Zad]
 show CallOK _ _ _ _ [v] _ _ _
 refine Zf9 G U hk ?_
 revert q
 cases Zdu v with
 | true=>exact fun q=>nx _ _ q
 | false=>exact fun q=>⟨rfl,q⟩
omit G U in
theorem Zm9 {v:AV} {k:String} (h:Ze4 H v=some k):Zjr v=(k=="int"):=by
 cases v with
 | ref a =>
  revert h
  show (match H a with | some (.list _)=>some "list" | some (.tuple _)=>some "tuple" | some (.dict ..)=>some "dict" | _=>none)=some k→_
  split<;>intro h<;>cases h<;>rfl
 | _=>cases h;rfl
theorem Zhp {v:AV} (hk:Kn H v) (q:Q (.bool (Zjr v)) H):CallOK c (n+1) md "is_whole" [v] Q E H:=by
 obtain ⟨⟨k,hk⟩,_⟩:=hk
 refine G.call (F:=BK.f_is_whole) U.is_whole rfl ?_
 show wpSs _ [_] _ _ _ [some v] _
 rw [Zaw,Zbh,x_ao,Zav]
 refine Zoi rfl (Zmq hk (.inl rfl)) ?_
 rw [Zag]
 rw [Zm9 hk] at q
 by_cases h1:k = "int"
 ·subst h1
  show wpAO _ true [_] _ _ _ _
  rw [Za7,Zba]
  exact Zoi (b:=false) rfl (Zmq hk (.inr (.inl rfl))) q
 ·by_cases h2:k = "bool"
  ·subst h2
   show wpAO _ true [_] _ _ _ _
   rw [Za7,Zba]
   exact Zoi (b:=true) rfl (Zmq hk (.inr (.inl rfl))) q
  ·rw [beq_false_of_ne h1] at q
   rw [beq_false_of_ne h1,beq_false_of_ne h2]
   exact q
theorem Zhx {v:AV} (hk:Kn H v) (q:if Zci v then Q v H else E "NoAmount" H):CallOK c (n+2) true "amount_of" [v] Q E H:=by
 refine G.call (F:=BK.f_amount_of) U.amount_of rfl ?_
 have hg:c.P.consts.lookup "MOST_AMOUNT" = some (.int 1000000000000000000000000000000):=by rw [G.hP,U.consts];rfl
 show wpSs _ _ _ _ _ [some v] _
 refine w_st fun K nx=>?_
 rw [Zay,x_ao,Zav,Zba,Zao,Zae,Zad]
 show CallOK _ _ _ _ [v] _ _ _
 refine Zhp G U hk ?_
 cases v with
 | int i =>
  rw [Zag]
  show wpAO _ false [_] _ _ _ _
  rw [Za7,Zba,Za2,Zai,Zad]
  show wcmp .LtE (.int 1) (.int i) _ _
  rw [c_le,Zag]
  by_cases a:1≤i
  ·rw [decide_eq_true a,if_pos rfl]
   refine x_gl hg ?_
   rw [c_le,Zag]
   by_cases b:i≤1000000000000000000000000000000
   ·rw [decide_eq_true b]
    rw [show Zci (.int i)=true from decide_eq_true ⟨a,b⟩,if_pos rfl] at q
    exact nx _ _ q
   ·rw [decide_eq_false b]
    rw [show Zci (.int i)=false from decide_eq_false fun h=>b h.2,if_neg Bool.false_ne_true] at q
    exact ⟨rfl,q⟩
  ·rw [decide_eq_false a,if_neg Bool.false_ne_true]
   rw [show Zci (.int i)=false from decide_eq_false fun h=>a h.1,if_neg Bool.false_ne_true] at q
   exact ⟨rfl,q⟩
 | _=>exact ⟨rfl,q⟩
end
end Mine
end
section
namespace Mine
theorem Zf7 {l:List (Str×Int)} {k:Str}:Zbu (dI l) k=(lk l k).map .int:=by
 induction l with
 | nil=>rfl
 | cons e r ih =>
  unfold Zbu lk dI at *
  simp only [List.map_cons,List.find?_cons]
  by_cases h:e.1=k
  ·simp [h]
  ·simp [h];simpa using ih
theorem Zfn {l:List (Str×Int)} {k:Str} {i:Int}:putS (dI l) k (.int i)=dI (pt l k i):=by
 unfold putS pt
 refine rl Zf7 (rl Option.isSome_map ?_)
 split
 ·unfold dI
  refine rl List.map_map (rl List.map_map ?_)
  congr 1
  funext e
  simp only [Function.comp]
  split<;>rfl
 ·simp [dI]
theorem Zc4 {l:List (Str×Int)}:(dI l).length=l.length:=by simp [dI]
noncomputable def hs (l:List (Str×Int)) (k:Str):Bool:=(lk l k).isSome
theorem Zep {l:List (Str×Int)} {k:Str} (h:hs l k=true):lk l k=some ((lk l k).getD 0):=by
 unfold hs at h
 cases e:lk l k with
 | none=>rw [e] at h;cases h
 | some=>rfl
theorem Zcn {o:Addr→Option Role} {a b:Addr} {r r':Role} (h1:o a=some r) (h2:o b=some r') (h:r≠r'):a≠b:=fun e=>by subst e;rw [h1] at h2;obtain rfl:=Option.some.inj h2;exact h rfl
theorem Zju {o:Addr→Option Role} {H:Zaa} {x:Addr} {y:AObj} (hx:o x≠none):Fr1 o H o (up H x y):=⟨fun a z h k=>⟨by refine rl (Zab (fun q=>by subst q;exact hx k)) ?_;exact h,k⟩,fun _ h=>Zdn h⟩
theorem Zjc {P:Role→Prop} {o:Addr→Option Role} {H:Zaa} {x:Addr} {y:AObj} (hx:∀ r,o x=some r→¬ P r):KB P o o H (up H x y):=fun a r z hp ho hz _=>⟨ho,by refine rl (Zab (fun q=>by subst q;exact hx r ho hp)) ?_;exact hz⟩
noncomputable def Role.isP:Role→Prop
 | .data=>True
 | .pact _=>True
 | .inside _=>True
 | _=>False
section
variable {o:Addr→Option Role} {H:Zaa} {b f s p:Addr} {as:List Addr} {B:Bk} (ib:IsBook o H b f s p as B)
include ib
theorem IsBook.setFree (ep:Nat) (l:List (Str×Int)):IsBook o (up H f (.dict ep (dI l))) b f s p as { B with free:=l } :=
 ⟨ib.ob,ib.of,ib.os,ib.op,by refine rl (Zab (Zcn ib.ob ib.of (by intro h;contradiction))) ?_;exact ib.hb,⟨ep,Zac⟩,
  by refine rl (Zab (Zcn ib.os ib.of (by intro h;contradiction))) ?_;exact ib.hs,by refine rl (Zab (Zcn ib.op ib.of (by intro h;contradiction))) ?_;exact ib.hp,
  ib.ps.congr (P:=Role.isP) (Zjc fun r h=>by rw [ib.of] at h;obtain rfl:=Option.some.inj h;exact id) trivial fun _ _=>⟨trivial,trivial⟩⟩
theorem IsBook.setAside (ep:Nat) (l:List (Str×Int)):IsBook o (up H s (.dict ep (dI l))) b f s p as { B with aside:=l } :=
 ⟨ib.ob,ib.of,ib.os,ib.op,by refine rl (Zab (Zcn ib.ob ib.os (by intro h;contradiction))) ?_;exact ib.hb,by refine rl (Zab (Zcn ib.of ib.os (by intro h;contradiction))) ?_;exact ib.hf,
  ⟨ep,Zac⟩,by refine rl (Zab (Zcn ib.op ib.os (by intro h;contradiction))) ?_;exact ib.hp,
  ib.ps.congr (P:=Role.isP) (Zjc fun r h=>by rw [ib.os] at h;obtain rfl:=Option.some.inj h;exact id) trivial fun _ _=>⟨trivial,trivial⟩⟩
end
noncomputable def Za6 (B:Bk):AV→Bool
 | .str k=>isNm k&&hs B.free k
 | _=>false
section
variable {c:Cx} {P:Pg} (G:Gd c P) (U:HasA P) {n:Nat} {md:Bool} {Q:AV→Zaa→Prop} {E:String→Zaa→Prop} {H:Zaa} {o:Addr→Option Role} {b f s p:Addr} {as:List Addr} {B:Bk}
section
variable {g:Gx} {V:VV} (ib:IsBook o H b f s p as B)
theorem Zcs {i:Nat} (hP:g.c.P.attrs=BK.attrs) (ib:IsBook o H b f s p as B) (hV:V[i]? = some (some (.ref b))) (q:Q (.ref f) H):wpX g (.attr (.var i) "free") V Q E H:=by
 simp only [Za5,Zbe,Zad,hV,ib.hb]
 exact ⟨by refine rl hP ?_;rfl,q⟩
theorem Zds {i:Nat} (hP:g.c.P.attrs=BK.attrs) (ib:IsBook o H b f s p as B) (hV:V[i]? = some (some (.ref b))) (q:Q (.ref s) H):wpX g (.attr (.var i) "aside") V Q E H:=by
 simp only [Za5,Zbe,Zad,hV,ib.hb]
 exact ⟨by refine rl hP ?_;rfl,q⟩
theorem Zcr {i:Nat} (hP:g.c.P.attrs=BK.attrs) (ib:IsBook o H b f s p as B) (hV:V[i]? = some (some (.ref b))) (q:Q (.ref p) H):wpX g (.attr (.var i) "pacts") V Q E H:=by
 simp only [Za5,Zbe,Zad,hV,ib.hb]
 exact ⟨by refine rl hP ?_;rfl,q⟩
theorem Zy7 {i:Nat} (hP:g.c.P.attrs=BK.attrs) (ib:IsBook o H b f s p as B) (hV:V[i]? = some (some (.ref b))) (q:Q (.int B.day) H):wpX g (.attr (.var i) "day") V Q E H:=by
 simp only [Za5,Zbe,Zad,hV,ib.hb]
 exact ⟨by refine rl hP ?_;rfl,q⟩
theorem Zbi {i:Nat} {m:String} {xs:List X} (hP:g.c.P.meths=BK.meths) (hm:BK.meths.contains ("Book",m)=true) (hn:bookAttrs.contains m=false) (ib:IsBook o H b f s p as B) (hV:V[i]? = some (some (.ref b)))
  (q:wpXs g xs V (fun vs H=>CallOK g.c g.n g.md ("Book."++m) (.ref b::vs) Q E H) E H):wpX g (.meth (.var i) m xs) V Q E H:=by
 simp only [Za5,Zbe,Zad,hV,ib.hb]
 refine ⟨by refine rl hP ?_;exact hm,?_,q⟩
 simp only [bookAttrs,List.contains_cons,List.contains_nil,Bool.or_false,Bool.or_eq_false_iff,beq_eq_false_iff_ne] at hn
 obtain ⟨n1,n2,n3,n4⟩:=hn
 simp [Zeb,n1.symm,n2.symm,n3.symm,n4.symm]
theorem Zc8 {k:Str} {v:Int} (ib:IsBook o H b f s p as B) (h:lk B.free k=some v) (q:Q (.int v) H):wsub (.ref f) (.str k) Q H:=by
 obtain ⟨ep,hf⟩:=ib.hf
 simp only [Zgf,Zge,Zot,hf]
 exact ⟨.int v,by refine rl Zf7 (rl h ?_);rfl,q⟩
theorem Zeh {k:Str} {v:Int} (ib:IsBook o H b f s p as B) (h:lk B.aside k=some v) (q:Q (.int v) H):wsub (.ref s) (.str k) Q H:=by
 obtain ⟨ep,hf⟩:=ib.hs
 simp only [Zgf,Zge,Zot,hf]
 exact ⟨.int v,by refine rl Zf7 (rl h ?_);rfl,q⟩
theorem Zqh {k:Str} {no:Bool} (ib:IsBook o H b f s p as B) (q:Q (.bool (hs B.free k != no)) H):win no (.str k) (.ref f) Q H:=by
 obtain ⟨ep,hf⟩:=ib.hf
 simp only [Ze7,Zhr,hf]
 refine rl Zf7 (rl Option.isSome_map (rl nt_eq.symm ?_))
 exact q
end
include G U
theorem Zbw {v:AV} (ib:IsBook o H b f s p as B) (hk:Kn H v) (q:if Za6 B v then Q .none H else E "NoPurse" H):CallOK c (n+2) true "Book.need_purse" [.ref b,v] Q E H:=by
 refine G.call (F:=BK.f_Book_need_purse) U.need_purse rfl ?_
 have hA:c.P.attrs=BK.attrs:=by exact rl G.hP (rl U.attrs rfl)
 simp only [BK.f_Book_need_purse,Zfy,v_0,Zai,Zad,Zau,Zbq,Zba,x_ao,Zbp,Zan,Za2,Zat,Zas,Za1,Zao,Zal,x_bm,Zbn,Zaz,Zbj,Zaq,Zah,Zae,Za7,Zav,Zb9,Zb0,Zb1,Zbs,tv,tsub,tattr,wtg,Zct,Zdm,Ze6,Zcl,Zcq,Zfg,Zdr,c_lt,c_le,c_gt,c_ge,c_eq,c_ne,Zdc,Ze5,c_in,Zd5,Zag,Zfk,Zdo,Zaw,Zeg,Zay,Zbh,Zam,Zar,Za4]
 simp
 refine Zf9 G U hk ?_
 cases hn:Zdu v with
 | false =>
  have:Za6 B v=false:=by cases v<;>first | rfl | (simp only [Zdu] at hn;simp [Za6,hn])
  rw [this] at q
  simpa [v_0,Zai,Zad,Zau,Zbq,Zba,x_ao,Zbp,Zan,Za2,Zat,Zas,Za1,Zao,Zal,x_bm,Zbn,Zaz,Zbj,Zaq,Zah,Zae,Za7,Zav,Zb9,Zb0,Zb1,Zbs,tv,tsub,tattr,wtg,Zct,Zdm,Ze6,Zcl,Zcq,Zfg,Zdr,c_lt,c_le,c_gt,c_ge,c_eq,c_ne,Zdc,Ze5,c_in,Zd5,Zag,Zfk,Zdo,Zaw,Zeg,Zay,Zbh,Zam,Zar,Za4] using q
 | true =>
  cases v with
  | str k =>
   simp only [Zdu] at hn
   simp [v_0,Zai,Zad,Zau,Zbq,Zba,x_ao,Zbp,Zan,Za2,Zat,Zas,Za1,Zao,Zal,x_bm,Zbn,Zaz,Zbj,Zaq,Zah,Zae,Za7,Zav,Zb9,Zb0,Zb1,Zbs,tv,tsub,tattr,wtg,Zct,Zdm,Ze6,Zcl,Zcq,Zfg,Zdr,c_lt,c_le,c_gt,c_ge,c_eq,c_ne,Zdc,Ze5,c_in,Zd5,Zag,Zfk,Zdo]
   refine Zcs hA ib rfl (Zqh ib ?_)
   cases hh:hs B.free k with
   | true=>simp [Za6,hn,hh,Zag] at q ⊢;exact q
   | false=>simp [Za6,hn,hh,Zag,Za4] at q ⊢;exact q
  | _=>contradiction
end
end Mine
end
section
namespace Mine
noncomputable def Zax:AV→Str
 | .str k=>k
 | _=>default
noncomputable def Zgp:AV→Int
 | .int i=>i
 | _=>0
noncomputable def Zlj (B:Bk) (v:AV):Except String Bk :=
 if Zdu v then (if hs B.free (Zax v) then .error "Taken" else .ok { B with free:=pt B.free (Zax v) 0,aside:=pt B.aside (Zax v) 0 }) else .error "NoName"
noncomputable def Zco (B:Bk) (v:AV):Int:=(lk B.free (Zax v)).getD 0
noncomputable def Zfh (B:Bk) (v:AV):Int:=(lk B.aside (Zax v)).getD 0
noncomputable def putQ (B:Bk) (v a:AV):Except String Bk :=
 if Za6 B v then (if Zci a then .ok { B with free:=pt B.free (Zax v) (Zco B v+Zgp a) } else .error "NoAmount") else .error "NoPurse"
noncomputable def Znc (B:Bk) (v a:AV):Except String Bk :=
 if Za6 B v then (if Zci a then (if Zco B v<Zgp a then .error "TooLittle" else .ok { B with free:=pt B.free (Zax v) (Zco B v - Zgp a) }) else .error "NoAmount") else .error "NoPurse"
theorem Zd9 {v:AV} (h:Zdu v=true):v = .str (Zax v):=by cases v<;>first | rfl | cases h
theorem Zbd {B:Bk} {v:AV} (h:Za6 B v=true):v = .str (Zax v)∧hs B.free (Zax v)=true:=by
 cases v with
 | str k=>simp only [Za6,Bool.and_eq_true] at h;exact ⟨rfl,h.2⟩
 | _=>contradiction
theorem Zgd {v:AV} (h:Zci v=true):v = .int (Zgp v):=by cases v<;>first | rfl | cases h
theorem Zex {B:Bk} {v:AV} (h:Za6 B v=true):lk B.free (Zax v)=some (Zco B v):=Zep (Zbd h).2
noncomputable def Bk.Sz (B:Bk):Prop:=B.free.length≤sizeLine∧B.aside.length≤sizeLine
noncomputable def Ends (r:Except String Bk) (q:Bk→Prop) (e:String→Prop):Prop :=
 match r with
 | .ok B=>q B
 | .error cl=>e cl
section
variable {A A':Bk→Prop} {F F':String→Prop} {p:Prop} [Decidable p] {x y:Except String Bk}
theorem Ends.t (q:Ends (if p then x else y) A F) (h:p):Ends x A F:=by rw [if_pos h] at q;exact q
theorem Ends.f (q:Ends (if p then x else y) A F) (h:¬ p):Ends y A F:=by rw [if_neg h] at q;exact q
theorem Ends.gen {G:Prop} (q:Ends x A F) (k:∀ A' F',(∀ B,A' B→A B)→(∀ e,F' e→F e)→Ends x A' F'→G):G:=k A F (fun _ h=>h) (fun _ h=>h) q
variable {α:Type} {z:Except String α} {f:α→Except String Bk} {e:String} {a:α}
theorem Ends.er (q:Ends (z.bind f) A F) (h:z = .error e):F e:=by rw [h] at q;exact q
theorem Ends.ok (q:Ends (z.bind f) A F) (h:z = .ok a):Ends (f a) A F:=by rw [h] at q;exact q
noncomputable def toE {α:Type} (e:String):Option α→Except String α
 | none=>.error e
 | some a=>.ok a
theorem Ends.no {o:Option α} (q:Ends ((toE e o).bind f) A F) (h:o=none):F e:=by rw [h] at q;exact q
end
section
variable {c:Cx} {P:Pg} (G:Gd c P) (U:HasA P) {n:Nat} {md:Bool} {Q:AV→Zaa→Prop} {E:String→Zaa→Prop} {H:Zaa} {o:Addr→Option Role} {b f s p:Addr} {as:List Addr} {B:Bk}
section
variable {g:Gx} {V:VV} {QN:VV→Zaa→Prop}
theorem Zg9 {i j:Nat} {k:Str} {x:Int} (hP:g.c.P.attrs=BK.attrs) (ib:IsBook o H b f s p as B) (hl:B.free.length≤sizeLine) (hV:V[i]? = some (some (.ref b))) (hj:V[j]? = some (some (.str k)))
  (q:∀ H',IsBook o H' b f s p as { B with free:=pt B.free k x }→Fr1 o H o H'→QN V H'):wpT g (.sub (.attr (.var i) "free") (.var j)) (.int x) V QN E H:=by
 dsimp only [tsub]
 refine Zcs hP ib hV ?_
 obtain ⟨ep,hf⟩:=ib.hf
 simp only [Zad,hj,hf]
 refine ⟨by refine rl Zc4 ?_;exact hl,fun ep'=>?_⟩
 refine rl Zfn ?_
 exact q _ (ib.setFree ep' _) (Zju (by refine rl ib.of ?_;simp))
theorem Zi3 {i j:Nat} {k:Str} {x:Int} (hP:g.c.P.attrs=BK.attrs) (ib:IsBook o H b f s p as B) (hl:B.aside.length≤sizeLine) (hV:V[i]? = some (some (.ref b))) (hj:V[j]? = some (some (.str k)))
  (q:∀ H',IsBook o H' b f s p as { B with aside:=pt B.aside k x }→Fr1 o H o H'→QN V H'):wpT g (.sub (.attr (.var i) "aside") (.var j)) (.int x) V QN E H:=by
 dsimp only [tsub]
 refine Zds hP ib hV ?_
 obtain ⟨ep,hf⟩:=ib.hs
 simp only [Zad,hj,hf]
 refine ⟨by refine rl Zc4 ?_;exact hl,fun ep'=>?_⟩
 refine rl Zfn ?_
 exact q _ (ib.setAside ep' _) (Zju (by refine rl ib.os ?_;simp))
end
include G U
theorem Zsl {v:AV} (ib:IsBook o H b f s p as B) (hk:Kn H v) (hz:B.Sz) (q:Ends (Zlj B v) (fun B'=>∀ H',IsBook o H' b f s p as B'→Fr1 o H o H'→Q .none H') (fun cl=>E cl H)):CallOK c (n+3) true "Book.open_purse" [.ref b,v] Q E H:=by
 refine G.call (F:=BK.f_Book_open_purse) U.open_purse rfl ?_
 have hA:c.P.attrs=BK.attrs:=by exact rl G.hP (rl U.attrs rfl)
 refine w_st fun K nx=>?_
 dsimp only [Zar,Zao,Zae,Zad]
 refine Zlu G U hk ?_
 refine q.gen fun A F qA qF q=>?_
 cases hn:Zdu v with
 | false=>exact qF _ (q.f (by refine rl hn ?_;decide))
 | true =>
  obtain ⟨k,rfl⟩:∃ k,v = .str k:=⟨_,Zd9 hn⟩
  replace q:=q.t hn
  refine nx _ _ ?_
  refine w_st fun K nx=>?_
  dsimp only [Zay,Zan,Zad]
  refine Zcs hA ib rfl ?_
  dsimp only [c_in]
  refine Zqh ib ?_
  cases hh:hs B.free k with
  | true=>exact ⟨rfl,qF _ (q.t hh)⟩
  | false =>
   replace q:=q.f fun h=>Bool.false_ne_true (hh.symm.trans h)
   refine nx _ _ ?_
   refine w_st fun K nx=>?_
   dsimp only [Zam,Zai]
   refine Zg9 (k:=k) hA ib hz.1 rfl rfl fun H1 ib1 f1=>nx _ _ ?_
   refine w_st fun K nx=>?_
   dsimp only [Zam,Zai]
   exact Zi3 (k:=k) hA ib1 hz.2 rfl rfl fun H2 ib2 f2=>nx _ _ (qA _ q H2 ib2 (f1.trans f2))
theorem Zve {v a:AV} (hput:P.fns.lookup "Book.put" = some BK.f_Book_put) (ib:IsBook o H b f s p as B) (hk:Kn H v) (hka:Kn H a) (hz:B.Sz) (q:Ends (putQ B v a) (fun B'=>∀ H',IsBook o H' b f s p as B'→Fr1 o H o H'→Q .none H') (fun cl=>E cl H)):CallOK c (n+3) true "Book.put" [.ref b,v,a] Q E H:=by
 refine G.call (F:=BK.f_Book_put) hput rfl ?_
 have hA:c.P.attrs=BK.attrs:=by exact rl G.hP (rl U.attrs rfl)
 have hM:c.P.meths=BK.meths:=by exact rl G.hP (rl U.meths rfl)
 refine w_st fun K nx=>?_
 dsimp only [Zar]
 refine Zbi hM (by decide) (by decide) ib rfl ?_
 refine Zbw G U ib hk ?_
 refine q.gen fun A F qA qF q=>?_
 cases hp:Za6 B v with
 | false=>exact qF _ (q.f (by refine rl hp ?_;decide))
 | true =>
  have hf:=Zex hp
  obtain ⟨k,rfl⟩:∃ k,v = .str k:=⟨_,(Zbd hp).1⟩
  replace q:=q.t hp
  refine nx _ _ ?_
  refine w_st fun K nx=>?_
  dsimp only [Zam,Zau,Zat]
  refine Zcs hA ib rfl ?_
  refine Zc8 ib hf ?_
  refine Zhx G U hka ?_
  cases ha:Zci a with
  | false=>exact qF _ (q.f (by refine rl ha ?_;decide))
  | true =>
   obtain ⟨i,rfl⟩:∃ i,a = .int i:=⟨_,Zgd ha⟩
   replace q:=q.t ha
   refine rl (if_pos rfl) (rl Zct ?_)
   exact Zg9 (k:=k) hA ib hz.1 rfl rfl fun H1 ib1 f1=>nx _ _ (qA _ q H1 ib1 f1)
theorem Zry {v a:AV} (htake:P.fns.lookup "Book.take" = some BK.f_Book_take) (ib:IsBook o H b f s p as B) (hk:Kn H v) (hka:Kn H a) (hz:B.Sz) (q:Ends (Znc B v a) (fun B'=>∀ H',IsBook o H' b f s p as B'→Fr1 o H o H'→Q .none H') (fun cl=>E cl H)):CallOK c (n+3) true "Book.take" [.ref b,v,a] Q E H:=by
 refine G.call (F:=BK.f_Book_take) htake rfl ?_
 have hA:c.P.attrs=BK.attrs:=by exact rl G.hP (rl U.attrs rfl)
 have hM:c.P.meths=BK.meths:=by exact rl G.hP (rl U.meths rfl)
 refine w_st fun K nx=>?_
 dsimp only [Zar]
 refine Zbi hM (by decide) (by decide) ib rfl ?_
 refine Zbw G U ib hk ?_
 refine q.gen fun A F qA qF q=>?_
 cases hp:Za6 B v with
 | false=>exact qF _ (q.f (by refine rl hp ?_;decide))
 | true =>
  have hf:=Zex hp
  obtain ⟨k,rfl⟩:∃ k,v = .str k:=⟨_,(Zbd hp).1⟩
  replace q:=q.t hp
  refine nx _ _ ?_
  refine w_st fun K nx=>?_
  dsimp only [Zar,Zao,Zae,Zad]
  refine Zhx G U hka ?_
  cases ha:Zci a with
  | false=>exact qF _ (q.f (by refine rl ha ?_;decide))
  | true =>
   obtain ⟨i,rfl⟩:∃ i,a = .int i:=⟨_,Zgd ha⟩
   replace q:=q.t ha
   refine nx _ _ ?_
   refine w_st fun K nx=>?_
   dsimp only [Zay,Zan,Zat]
   refine Zcs hA ib rfl ?_
   dsimp only [Zad]
   refine Zc8 ib hf ?_
   show wcmp .Lt (.int (Zco B (.str k))) (.int i) _ _
   dsimp only [c_lt,Zag]
   by_cases hlt:Zco B (.str k)<i
   ·refine rl (decide_eq_true hlt) ?_;exact ⟨rfl,qF _ (q.t hlt)⟩
   ·replace q:=q.f hlt
    refine rl (decide_eq_false hlt) ?_
    refine nx _ _ ?_
    refine w_st fun K nx=>?_
    dsimp only [Zam,Zau,Zat]
    refine Zcs hA ib rfl ?_
    dsimp only [Zad]
    refine Zc8 ib hf ?_
    show wbin .Sub (.int (Zco B (.str k))) (.int i) _ _
    refine rl Zdm ?_
    exact Zg9 (k:=k) hA ib hz.1 rfl rfl fun H1 ib1 f1=>nx _ _ (qA _ q H1 ib1 f1)
theorem Zn8 {v:AV} (ib:IsBook o H b f s p as B) (hk:Kn H v) (q:if Za6 B v then Q (.int (Zco B v)) H else E "NoPurse" H):CallOK c (n+3) true "Book.free_of" [.ref b,v] Q E H:=by
 refine G.call (F:=BK.f_Book_free_of) U.free_of rfl ?_
 have hA:c.P.attrs=BK.attrs:=by exact rl G.hP (rl U.attrs rfl)
 have hM:c.P.meths=BK.meths:=by exact rl G.hP (rl U.meths rfl)
 dsimp only [BK.f_Book_free_of,Zfy,v_0,Zai,Zad,Zau,Zbq,Zba,x_ao,Zbp,Zan,Za2,Zat,Zas,Za1,Zao,Zal,x_bm,Zbn,Zaz,Zbj,Zaq,Zah,Zae,Za7,Zav,Zb9,Zb0,Zb1,Zbs,tv,wtg,Zct,Zdm,Ze6,Zcl,Zcq,Zfg,Zdr,c_lt,c_le,c_gt,c_ge,c_eq,c_ne,Zdc,Ze5,c_in,Zd5,Zag,Zfk,Zdo,Zaw,Zeg,Zay,Zbh,Zam,Zar,Za4]
 refine Zbi hM (by decide) (by decide) ib rfl ?_
 refine Zbw G U ib hk ?_
 cases hp:Za6 B v with
 | false=>simp [hp] at q ⊢;exact q
 | true =>
  have hf:=Zex hp
  obtain ⟨k,rfl⟩:∃ k,v = .str k:=⟨_,(Zbd hp).1⟩
  simp only [hp,if_true] at q ⊢
  exact Zcs hA ib rfl (Zc8 ib hf q)
theorem Zl3 {v:AV} (hU:P.fns.lookup "Book.aside_of" = some BK.f_Book_aside_of) (ib:IsBook o H b f s p as B) (hk:Kn H v) (hs':∀ k,hs B.free k=true→hs B.aside k=true) (q:if Za6 B v then Q (.int (Zfh B v)) H else E "NoPurse" H):CallOK c (n+3) true "Book.aside_of" [.ref b,v] Q E H:=by
 refine G.call (F:=BK.f_Book_aside_of) hU rfl ?_
 have hA:c.P.attrs=BK.attrs:=by exact rl G.hP (rl U.attrs rfl)
 have hM:c.P.meths=BK.meths:=by exact rl G.hP (rl U.meths rfl)
 dsimp only [BK.f_Book_aside_of,Zfy,v_0,Zai,Zad,Zau,Zbq,Zba,x_ao,Zbp,Zan,Za2,Zat,Zas,Za1,Zao,Zal,x_bm,Zbn,Zaz,Zbj,Zaq,Zah,Zae,Za7,Zav,Zb9,Zb0,Zb1,Zbs,tv,wtg,Zct,Zdm,Ze6,Zcl,Zcq,Zfg,Zdr,c_lt,c_le,c_gt,c_ge,c_eq,c_ne,Zdc,Ze5,c_in,Zd5,Zag,Zfk,Zdo,Zaw,Zeg,Zay,Zbh,Zam,Zar,Za4]
 refine Zbi hM (by decide) (by decide) ib rfl ?_
 refine Zbw G U ib hk ?_
 cases hp:Za6 B v with
 | false=>simp [hp] at q ⊢;exact q
 | true =>
  have hf:=Zep (hs' _ (Zbd hp).2)
  obtain ⟨k,rfl⟩:∃ k,v = .str k:=⟨_,(Zbd hp).1⟩
  simp only [hp,if_true] at q ⊢
  exact Zds hA ib rfl (Zeh ib hf q)
end
end Mine
end
section
namespace Mine
theorem Zgo {H:Zaa} {a b:Addr} {o:AObj} (h:up H a o b=none):a≠b:=fun e=>by subst e;rw [Zac] at h;contradiction
theorem st_a {g:Gx} {V:VV} {K:VV→Zaa→Prop} {E:String→Zaa→Prop} {H:Zaa} {i:Nat} {n cl:String} {a:Addr} {es:List (String×AV)} {x:AV} (hV:V[i]? = some (some (.ref a))) (hP:g.c.P.attrs.contains (cl,n)=true) (h:H a=some (.inst cl es)) (hl:es.length≤100) (q:K V (up H a (.inst cl (putA es n x)))):wpT g (.attr (.var i) n) x V K E H:=by
 (dsimp only [tattr,Zad];refine rl hV ?_)
 show match H a with | some (.inst cl es)=>_ | _=>False
 refine rl h ?_;exact ⟨hP,hl,q⟩
theorem Zd7 {H:Zaa} {a:Addr} {x:AObj} (h:H a=some x):up H a x=H:=by
 funext b
 by_cases e:b=a
 ·subst e;exact rl Zac (rl h rfl)
 ·exact rl (Zab e) rfl
theorem Zq4 {o:Addr→Option Role} {H:Zaa}:∀ {i:Nat} {as:List Addr} {ps:List Pc},pactsAt o H i as ps→((dP ps as).map fun e=>AV.str e.1)=ps.map fun e=>.str e.name
 | _,[],[],_=>rfl
 | _,_::_,_::_,h=>by simp only [dP,List.map_cons];exact rl (Zq4 h.2) rfl
section
variable {c:Cx} {P:Pg} (G:Gd c P) (U:HasA P) {n:Nat} {md:Bool} {Q:AV→Zaa→Prop} {E:String→Zaa→Prop} {H:Zaa} {b:Addr} {B:Bk}
theorem Kn.open {H₂:Zaa} {v:AV} {o:Addr→Option Role} (hb:H b=some (.book B)) (hold:∀ a x,H a=some x→a≠b→H₂ a=some x∧o a=none) (k:Kn H v):Kn H₂ v:=by
 obtain ⟨⟨t,ht⟩,hl⟩:=k
 refine ⟨⟨t,?_⟩,hl⟩
 cases v with
 | ref a =>
  simp only [Ze4] at ht ⊢
  cases e:H a with
  | none=>rw [e] at ht;cases ht
  | some x =>
   have:a≠b:=fun q=>by subst q;rw [hb] at e;cases e;rw [hb] at ht;cases ht
   refine rl ((hold a x e this).1) ?_;rw [e] at ht;exact ht
 | _=>exact ht
theorem IsBook.fresh {o:Addr→Option Role} {H₂:Zaa} {f s p z:Addr} {as:List Addr} (ib:IsBook o H₂ b f s p as B) (hz:H₂ z=none) (y:AObj):IsBook (fun a=>if a=z then none else o a) (up H₂ z y) b f s p as B∧Fr1 o H₂ (fun a=>if a=z then none else o a) (up H₂ z y) :=
 ⟨ib.congr fun a r x _ ho hx _=>by
   have:a≠z:=fun q=>by subst q;rw [hz] at hx;contradiction
   exact ⟨by simp only [this,if_false];exact ho,by refine rl (Zab this) ?_;exact hx⟩,
  ⟨fun a x h k=>by
   have:a≠z:=fun q=>by subst q;rw [hz] at h;contradiction
   exact ⟨by refine rl (Zab this) ?_;exact h,by simp only [this,if_false];exact k⟩,fun _ h=>Zdn h⟩⟩
include G U
theorem Zxl {v:AV} (hb:H b=some (.book B)) (hk:Kn H v) (hz:B.Sz) (q:Ends (Zlj B v) (fun B'=>Q .none (up H b (.book B'))) (fun cl=>E cl H)):CallOK c (n+3) true "Book.open_purse" [.ref b,v] Q E H:=by
 refine Zbo hb fun H₂ o f s p as ib hold=>Zsl G U ib (hk.open hb hold) hz ?_
 revert q
 cases Zlj B v with
 | ok B'=>exact fun q H' ib' fr=>⟨o,f,s,p,as,B',ib',fr,.inl ⟨(fun _ h=>by contradiction),q⟩⟩
 | error cl=>exact fun q=>⟨o,f,s,p,as,B,ib,.refl,by refine rl (Zd7 hb) ?_;exact q⟩
theorem Zxh {v a:AV} (hput:P.fns.lookup "Book.put" = some BK.f_Book_put) (hb:H b=some (.book B)) (hk:Kn H v) (hka:Kn H a) (hz:B.Sz) (q:Ends (putQ B v a) (fun B'=>Q .none (up H b (.book B'))) (fun cl=>E cl H)):CallOK c (n+3) true "Book.put" [.ref b,v,a] Q E H:=by
 refine Zbo hb fun H₂ o f s p as ib hold=>Zve G U hput ib (hk.open hb hold) (hka.open hb hold) hz ?_
 revert q
 cases putQ B v a with
 | ok B'=>exact fun q H' ib' fr=>⟨o,f,s,p,as,B',ib',fr,.inl ⟨(fun _ h=>by contradiction),q⟩⟩
 | error cl=>exact fun q=>⟨o,f,s,p,as,B,ib,.refl,by refine rl (Zd7 hb) ?_;exact q⟩
theorem Zw0 {v a:AV} (htake:P.fns.lookup "Book.take" = some BK.f_Book_take) (hb:H b=some (.book B)) (hk:Kn H v) (hka:Kn H a) (hz:B.Sz) (q:Ends (Znc B v a) (fun B'=>Q .none (up H b (.book B'))) (fun cl=>E cl H)):CallOK c (n+3) true "Book.take" [.ref b,v,a] Q E H:=by
 refine Zbo hb fun H₂ o f s p as ib hold=>Zry G U htake ib (hk.open hb hold) (hka.open hb hold) hz ?_
 revert q
 cases Znc B v a with
 | ok B'=>exact fun q H' ib' fr=>⟨o,f,s,p,as,B',ib',fr,.inl ⟨(fun _ h=>by contradiction),q⟩⟩
 | error cl=>exact fun q=>⟨o,f,s,p,as,B,ib,.refl,by refine rl (Zd7 hb) ?_;exact q⟩
theorem Ztd {v:AV} (hb:H b=some (.book B)) (hk:Kn H v) (q:if Za6 B v then Q (.int (Zco B v)) H else E "NoPurse" H):CallOK c (n+3) true "Book.free_of" [.ref b,v] Q E H:=by
 refine Zbo hb fun H₂ o f s p as ib hold=>Zn8 G U ib (hk.open hb hold) ?_
 revert q
 cases Za6 B v with
 | true=>exact fun q=>⟨o,f,s,p,as,B,ib,.refl,.inl ⟨(fun _ h=>by contradiction),by refine rl (Zd7 hb) ?_;exact q⟩⟩
 | false=>exact fun q=>⟨o,f,s,p,as,B,ib,.refl,by refine rl (Zd7 hb) ?_;exact q⟩
theorem Zrm {v:AV} (hU:P.fns.lookup "Book.aside_of" = some BK.f_Book_aside_of) (hb:H b=some (.book B)) (hk:Kn H v) (hs':∀ k,hs B.free k=true→hs B.aside k=true) (q:if Za6 B v then Q (.int (Zfh B v)) H else E "NoPurse" H):CallOK c (n+3) true "Book.aside_of" [.ref b,v] Q E H:=by
 refine Zbo hb fun H₂ o f s p as ib hold=>Zl3 G U hU ib (hk.open hb hold) hs' ?_
 revert q
 cases Za6 B v with
 | true=>exact fun q=>⟨o,f,s,p,as,B,ib,.refl,.inl ⟨(fun _ h=>by contradiction),by refine rl (Zd7 hb) ?_;exact q⟩⟩
 | false=>exact fun q=>⟨o,f,s,p,as,B,ib,.refl,by refine rl (Zd7 hb) ?_;exact q⟩
theorem Zfd {H₂:Zaa} {o:Addr→Option Role} {f s p z:Addr} {as:List Addr} (hb:H b=some (.book B)) (ib:IsBook o H₂ b f s p as B) (hold:∀ a x,H a=some x→a≠b→H₂ a=some x∧o a=none) (hz:H₂ z=none):H z=none:=by
 cases e:H z with
 | none=>rfl
 | some x =>
  by_cases q:z=b
  ·subst q;rw [ib.hb] at hz;contradiction
  ·rw [(hold z x e q).1] at hz;contradiction
theorem Zwy (hb:H b=some (.book B)) (hp:B.pacts.length≤sizeLine) (q:∀ z,H z=none→Q (.ref z) (up H z (.list (B.pacts.map fun e=>.str e.name)))):CallOK c (n+1) true "Book.told" [.ref b] Q E H:=by
 refine Zbo hb fun H₂ o f s p as ib hold=>?_
 refine G.call (F:=BK.f_Book_told) U.told rfl ?_
 have hA:c.P.attrs=BK.attrs:=by exact rl G.hP (rl U.attrs rfl)
 dsimp only [BK.f_Book_told,Zfy,v_0,Zai,Zad,Zau,Zbq,Zba,x_ao,Zbp,Zan,Za2,Zat,Zas,Za1,Zao,Zal,x_bm,Zbn,Zaz,Zbj,Zaq,Zah,Zae,Za7,Zav,Zb9,Zb0,Zb1,Zbs,tv,wtg,Zct,Zdm,Ze6,Zcl,Zcq,Zfg,Zdr,c_lt,c_le,c_gt,c_ge,c_eq,c_ne,Zdc,Ze5,c_in,Zd5,Zag,Zfk,Zdo,Zaw,Zeg,Zay,Zbh,Zam,Zar,Za4]
 refine Zcr hA ib rfl ?_
 obtain ⟨ep,hf⟩:=ib.hp
 have e2:=Zq4 ib.ps
 have e1:(dP B.pacts as).length=B.pacts.length:=by have:=congrArg List.length e2;simpa using this
 simp only [Zj9,Zhh,Zgv,Zsi,Zee,Zdt,Zgg,Zid,hf]
 refine ⟨trivial,by refine rl e1 ?_;exact hp,fun z hz=>?_⟩
 obtain ⟨i1,i2⟩:=ib.fresh hz (.list ((dP B.pacts as).map fun e=>.str e.1))
 refine ⟨_,f,s,p,as,B,i1,i2,.inr ⟨z,_,rfl,Zfd G U hb ib hold hz,Zac,by simp,?_⟩⟩
 refine rl (Zd7 hb) (rl e2 ?_)
 exact q z (Zfd G U hb ib hold hz)
omit G U in
theorem Zsr {g:Gx} {V:VV} (hP:g.c=c) (G:Gd g.c P) (U:HasA P) (hn:∃ m,g.n=m+1) (q:∀ a,H a=none→Q (.ref a) (up H a (.book ⟨0,[],[],[]⟩))):wpX g (.new "Book" []) V Q E H:=by
 obtain ⟨m,hm⟩:=hn
 (dsimp only [Zcd,Zah];refine rl hm ?_)
 intro a ha
 refine CallOK.post (Q:=fun r H'=>r = .none∧∃ o f s p,IsBook o H' a f s p [] ⟨0,[],[],[]⟩∧∀ x y,x≠a→H x=some y→H' x=some y∧o x=none) (E:=fun _ _=>False) ?_ (fun r H' h=>?_) (fun _ _ h=>h.elim)
 ·refine G.call (F:=BK.f_Book___init__) U.init rfl ?_
  have hA:g.c.P.attrs=BK.attrs:=by exact rl G.hP (rl U.attrs rfl)
  have hC:∀ n,BK.attrs.contains ("Book",n)=true→g.c.P.attrs.contains ("Book",n)=true:=fun n h=>by refine rl hA ?_;exact h
  refine w_st fun K nx=>?_
  dsimp only [Zam,Zai]
  refine st_a rfl (hC _ rfl) Zac (by decide) (nx _ _ ?_)
  refine w_st fun K nx=>?_
  intro f hf
  have fa:a≠f:=Zgo hf
  refine st_a rfl (hC _ rfl) (by exact rl (Zab fa) (rl Zac rfl)) (by decide) (nx _ _ ?_)
  refine w_st fun K nx=>?_
  intro s hs
  have sa:a≠s:=Zgo hs
  have sf:f≠s:=Zgo (by rw [Zab sa.symm] at hs;exact hs)
  refine st_a rfl (hC _ rfl) (by exact rl (Zab sa) (rl Zac rfl)) (by exact (show 2≤100 by decide)) (nx _ _ ?_)
  refine w_st fun K nx=>?_
  intro p hp
  have pa:a≠p:=Zgo hp
  have ps:s≠p:=Zgo (by rw [Zab pa.symm] at hp;exact hp)
  have pf:f≠p:=Zgo (by rw [Zab pa.symm,Zab ps.symm,Zab pa.symm] at hp;exact hp)
  refine st_a rfl (hC _ rfl) (by exact rl (Zab pa) (rl Zac rfl)) (by exact (show 3≤100 by decide)) (nx _ _ ?_)
  refine ⟨rfl,fun x=>if x=a then some .self else if x=f then some .free else if x=s then some .aside else if x=p then some .pacts else none,f,s,p,⟨by simp,by simp [fa.symm],by simp [sa.symm,sf.symm],by simp [pa.symm,pf.symm,ps.symm],Zac,⟨0,?_⟩,⟨0,?_⟩,⟨0,?_⟩,trivial⟩,fun x y hx hy=>?_⟩
  ·refine rl (Zab fa.symm) (rl (Zab pf) (rl (Zab fa.symm) (rl (Zab sf) (rl (Zab fa.symm) (rl Zac ?_)))));rfl
  ·refine rl (Zab sa.symm) (rl (Zab ps) (rl (Zab sa.symm) (rl Zac ?_)));rfl
  ·refine rl (Zab pa.symm) (rl Zac ?_);rfl
  ·have xf:x≠f:=fun e=>by subst e;rw [Zab hx,Zab hx,hy] at hf;contradiction
   have xs:x≠s:=fun e=>by subst e;rw [Zab hx,Zab xf,Zab hx,Zab hx,hy] at hs;contradiction
   have xp:x≠p:=fun e=>by subst e;rw [Zab hx,Zab xs,Zab hx,Zab xf,Zab hx,Zab hx,hy] at hp;contradiction
   exact ⟨by exact rl (Zab hx) (rl (Zab xp) (rl (Zab hx) (rl (Zab xs) (rl (Zab hx) (rl (Zab xf) (rl (Zab hx) (rl (Zab hx) (rl hy rfl)))))))),by simp [hx,xf,xs,xp]⟩
 ·obtain ⟨rfl,o,f,s,p,ib,hold⟩:=h
  refine ⟨_,fun H₁ r=>r.pack ib fun x y e=>?_,rfl,q a ha⟩
  by_cases w:x=a
  ·subst w;rw [Zac] at e;obtain rfl:=Option.some.inj e;exact .inl ⟨rfl,rfl⟩
  ·rw [Zab w] at e
   exact .inr ⟨w,(hold x y w e).2,(hold x y w e).1⟩
end
end Mine
end
section
namespace Mine
noncomputable def cell (ns:List Int) (k:Nat):Int:=(ns[k]?).getD 0
theorem Zjp {c:Cx} {P:Pg} (G:Gd c P) (hf:P.fns.lookup "_law_cell_at" = some BK.f__law_cell_at) {n:Nat} {md:Bool} {Q:AV→Zaa→Prop} {E:String→Zaa→Prop} {H:Zaa} {sp:Addr} {ns:List Int} {k:Int} (hk:0≤k) (hs:H sp=some (.script ns)) (hl:ns.length<2 ^ 62)
  (q:Q (.int (cell ns k.toNat)) H):CallOK c (n+1) md "_law_cell_at" [.ref sp,.int k] Q E H:=by
 refine G.call (F:=BK.f__law_cell_at) hf rfl ?_
 simp [BK.f__law_cell_at,Zj9,Zhh,Zgv,Zsi,Zee,Zdt,Zgg,Zid,hs,hl,Zfy,Zgf,Zge,Zot,v_0,Zai,Zad,Zau,Zbq,Zba,x_ao,Zbp,Zan,Za2,Zat,Zas,Za1,Zao,Zal,x_bm,Zbn,Zaz,Zbj,Zaq,Zah,Zae,Za7,Zav,Zb9,Zb0,Zb1,Zbs,tv,tsub,tattr,wtg,Zct,Zdm,Ze6,Zcl,Zcq,Zfg,Zdr,c_lt,c_le,c_gt,c_ge,c_eq,c_ne,Zdc,Ze5,c_in,Zd5,Zag,Zfk,Zdo,Zaw,Zeg,Zay,Zbh,Zam,Zar,Za4]
 obtain ⟨j,rfl⟩:=Int.eq_ofNat_of_zero_le hk
 by_cases h:j<ns.length
 ·simp [h]
  refine ⟨by lia,?_⟩
  simpa [cell,h] using q
 ·simp [h]
  simpa [cell,h] using q
theorem Zcb {x m:Int} (h:0<m):0≤x.fmod m:=by refine rl (Int.fmod_eq_emod_of_nonneg _ (by omega)) ?_;exact Int.emod_nonneg _ (by omega)
theorem Zcy {x m:Int} (h:0<m):x.fmod m<m:=by refine rl (Int.fmod_eq_emod_of_nonneg _ (by omega)) ?_;exact Int.emod_lt_of_pos _ h
theorem Zdf {H:Zaa} {a b:Addr} {o o':AObj} (h:H b=some o') (k:H a=none):up H a o b=some o':=by
 refine rl (Zab (fun z=>by rw [z,k] at h;contradiction)) ?_;exact h
noncomputable def Ext (H H':Zaa):Prop:=∀ a o,H a=some o→H' a=some o
theorem Ext.refl {H:Zaa}:Ext H H:=fun _ _ h=>h
theorem Ext.trans {H H' H'':Zaa} (x:Ext H H') (y:Ext H' H''):Ext H H'':=fun a o h=>y a o (x a o h)
theorem Ext.none {H H':Zaa} {z:Addr} (x:Ext H H') (h:H' z=none):H z=none:=by
 cases q:H z with
 | none=>rfl
 | some o=>rw [x z o q] at h;contradiction
theorem Ext.own {H H':Zaa} {z:Addr} {o:AObj} (x:Ext H H') (h:H z=Option.none):Ext H (up H' z o):=fun a o' e=>by
 refine rl (Zab (fun q=>by rw [q,h] at e;contradiction)) ?_;exact x a o' e
theorem Ext.new {H H':Zaa} {z:Addr} {o:AObj} (x:Ext H H') (h:H' z=Option.none):Ext H (up H' z o):=x.own (x.none h)
theorem Zke {H:Zaa} {a b:Addr} {o:AObj} (h:H a=some o) (k:H b=none):a≠b:=fun q=>by rw [q,k] at h;contradiction
noncomputable def txs (l:List Str):List AV:=l.map AV.str
theorem Zaj {l:List Str}:(txs l).length=l.length:=by simp [txs]
theorem Zix {l:List Str} {k:Nat} {x:AV} (h:(txs l)[k]? = some x):∃ s,x = .str s∧l[k]? = some s:=by
 unfold txs at h
 rw [List.getElem?_map,Option.map_eq_some_iff] at h
 obtain ⟨s,h1,h2⟩:=h
 exact ⟨s,h2.symm,h1⟩
theorem Zgr {l:List Str} {s:Str}:txs l++[.str s]=txs (l++[s]):=by simp [txs]
theorem Zc1 {α:Type} {l:List α} {k:Nat} {x:α} (h:l[k]? = some x):l.take (k+1)=l.take k++[x]:=by
 refine rl List.take_add_one (rl h ?_);rfl
theorem Zmf {H:Zaa}:∀ {l:List Str},RDs H (txs l) (l.map PyData.str)
 | []=>.nil
 | s::r=>.cons (.str s) Zmf
theorem Zji:∀ {l:List Str},Zf0 (l.map PyData.str)=true
 | []=>rfl
 | s::r=>by simp [Zf0,Zlz,Zji (l:=r)]
theorem Zku:∀ {l:List Str},PyData.depthAll (l.map PyData.str)=0
 | []=>rfl
 | s::r=>by simp [PyData.depthAll,PyData.depth,Zku (l:=r)]
theorem Zuc {l:List Str}:okD (.list (l.map PyData.str)):=⟨by simp [Zlz,Zji],by simp [PyData.depth,Zku]⟩
theorem Zxt {s:Str}:okD (.str s):=⟨rfl,Nat.zero_le _⟩
theorem Zq0:∀ {l l':List Str},PyData.eqvAll (l.map PyData.str) (l'.map PyData.str)=decide (l=l')
 | [],[]=>rfl
 | [],_::_=>rfl
 | _::_,[]=>rfl
 | s::r,s'::r'=>by
  simp only [List.map_cons,Z0l,Zyx,Zq0 (l:=r) (l':=r'),List.cons.injEq]
  by_cases h:s=s'<;>simp [h]
theorem Zwo {l:List Str} {s:Str}:((l.map PyData.str).any fun y=>PyData.eqv y (.str s))=decide (s∈l):=by
 induction l with
 | nil=>rfl
 | cons t r ih =>
  simp only [List.map_cons,List.any_cons,ih,Zyx,List.mem_cons]
  by_cases h:s=t
  ·simp [h]
  ·have:t≠s:=fun z=>h z.symm
   simp [h,this]
section
variable {Q:AV→Zaa→Prop} {H:Zaa}
theorem Ziu {no:Bool} {x:Str} {a:Addr} {l:List Str} (h:H a=some (.list (txs l))) (q:Q (.bool (decide (x∈l) != no)) H):win no (.str x) (.ref a) Q H:=by
 simp only [Ze7,Zhr,h]
 refine ⟨.str x,l.map PyData.str,.str x,Zmf,Zxt,Zji,?_⟩
 refine rl Zwo (rl nt_eq.symm ?_);exact q
theorem Ziw {no:Bool} {x:Str} {a:Addr} {ep:Nat} {es:List (Str×AV)} (h:H a=some (.dict ep es)) (q:Q (.bool ((Zbu es x).isSome != no)) H):win no (.str x) (.ref a) Q H:=by
 simp only [Ze7,Zhr,h,← nt_eq];exact q
theorem Zg1 {ne:Bool} {a b:Addr} {l l':List Str} (h:H a=some (.list (txs l))) (h':H b=some (.list (txs l'))) (q:Q (.bool (decide (l=l') != ne)) H):weq ne (.ref a) (.ref b) Q H:=by
 simp only [weq,h]
 refine ⟨.list (l.map PyData.str),.list (l'.map PyData.str),.list h Zmf,.list h' Zmf,Zuc,Zuc,?_⟩
 refine rl Z0k (rl Zq0 (rl nt_eq.symm ?_));exact q
end
theorem Z0r {Q:AV→Zaa→Prop} {H:Zaa} {u v:AV}:wcmp .Eq u v Q H=weq false u v Q H:=rfl
theorem Ztr {Q:AV→Zaa→Prop} {H:Zaa} {u v:AV}:wcmp .NotEq u v Q H=weq true u v Q H:=rfl
section
variable {Q:AV→Zaa→Prop} {H:Zaa}
theorem Zph {a:Addr} {xs:List AV} (h:H a=some (.list xs)) (hl:xs.length≤100000) (q:Q (.int xs.length) H):Zdx md .len [.ref a] Q H:=by
 simp only [Zj9,Zhh,Zgv,Zsi,Zee,Zdt,Zgg,Zid,h];exact ⟨by omega,q⟩
theorem Zxj {a:Addr} {xs:List AV} (h:H a=some (.list xs)) (hl:xs.length≤100000) (q:∀ z,H z=none→Q (.ref z) (up H z (.list xs))):Zdx md .list [.ref a] Q H:=by
 simp only [Zj9,Zhh,Zgv,Zsi,Zee,Zdt,Zgg,Zid,h];exact ⟨by simp [sizeLine];lia,q⟩
theorem Zja {a:Addr} {l:List Str} (h:H a=some (.list (txs l))) (hl:l.length≤1000) (q:∀ z,H z=none→Q (.ref z) (up H z (.list (txs l)))):Zdx md .list [.ref a] Q H :=
 Zxj h (by refine rl Zaj ?_;exact Nat.le_trans hl (by decide)) q
theorem Zdp {p:Addr} {xs:List AV} {v:AV} (h:H p=some (.list xs)) (hl:xs.length≤100000) (q:Q .none (up H p (.list (xs++[v])))):wbm (.ref p) .append [v] Q H:=by
 simp only [Z0b,Zvp,Zx1,h];exact ⟨by simp [sizeLine];lia,q⟩
end
section
variable {g:Gx} {QN:VV→Zaa→Prop} {QR:AV→Zaa→Prop} {E:String→VV→Zaa→Prop} {V:VV} {H:Zaa}
end
theorem Ze3 {QN:VV→Zaa→Prop} {stp:AV→(VV→Zaa→Prop)→VV→Zaa→Prop} {v:AV} {V:VV} {H:Zaa} {xs:List AV} (hx:Zap H v=some xs) (J:Nat→VV→Zaa→Prop) (h0:J 0 V H)
  (hs:∀ I:Nat→VV→Zaa→Prop,(∀ k V' H',J k V' H'→I k V' H')→∀ k V' H',J k V' H'→Zed H H' v∧(k=xs.length→QN V' H')∧∀ x,xs[k]? = some x→stp x (I (k+1)) V' H'):WFor QN stp v V H :=
 wfor hx J h0 (hs J fun _ _ _ h=>h)
theorem Zjs {Q:AV→Zaa→Prop} {stp:AV→(Option AV→Zaa→Prop)→Zaa→Prop} {v:AV} {H:Zaa} {xs:List AV} (hx:Zap H v=some xs) (hl:xs.length≤sizeLine) (f:AV→Option AV)
  (hs:∀ x∈xs,∀ H',Ext H H'→∀ nx:Option AV→Zaa→Prop,(∀ H'',Ext H' H''→nx (f x) H'')→stp x nx H')
  (q:∀ a H',Ext H H'→H' a=none→Q (.ref a) (up H' a (.list (xs.filterMap f)))):Zk5 Q stp v H:=by
 refine ⟨xs,hx,hl,fun k acc H'=>Ext H H'∧acc=(xs.take k).filterMap f,⟨.refl,by simp⟩,?_⟩
 rintro k acc H' ⟨hE,rfl⟩
 refine ⟨?_,fun hk a ha=>?_,fun x hxk=>?_⟩
 ·cases v with
  | ref a =>
   simp only [Zap] at hx
   simp only [Zed]
   cases q:H a with
   | none=>rw [q] at hx;cases hx
   | some o=>exact hE a o q
  | _=>trivial
 ·have:=q a H' hE ha
  refine rl hk (rl List.take_length ?_);exact this
 ·refine hs x (List.mem_of_getElem? hxk) H' hE _ fun H'' hE'=>⟨hE.trans hE',?_⟩
  refine rl (Zc1 hxk) (rl List.filterMap_append ?_)
  cases hf:f x<;>simp [hf]
section
variable {c:Cx} {P:Pg} (G:Gd c P) {n:Nat} {md:Bool} {Q:AV→Zaa→Prop} {E:String→Zaa→Prop} {H:Zaa}
noncomputable def mixed (a b:Int):Int:=(a*6364136223846793005+b*1442695040888963407+1013904223).fmod 2305843009213693951
include G in
theorem Zgw (hf:P.fns.lookup "_law_mixed" = some BK.f__law_mixed) {a b:Int} (q:Q (.int (mixed a b)) H):CallOK c (n+1) md "_law_mixed" [.int a,.int b] Q E H:=by
 refine G.call (F:=BK.f__law_mixed) hf rfl ?_
 simp [BK.f__law_mixed,Zfy,v_0,Zai,Zad,Zau,Zbq,Zba,x_ao,Zbp,Zan,Za2,Zat,Zas,Za1,Zao,Zal,x_bm,Zbn,Zaz,Zbj,Zaq,Zah,Zae,Za7,Zav,Zb9,Zb0,Zb1,Zbs,tv,tsub,tattr,wtg,Zct,Zdm,Ze6,Zcl,Zcq,Zfg,Zdr,c_lt,c_le,c_gt,c_ge,c_eq,c_ne,Zdc,Ze5,c_in,Zd5,Zag,Zfk,Zdo,Zaw,Zeg,Zay,Zbh,Zam,Zar,Za4]
 exact ⟨IntMulOk.of_right (by decide +kernel),IntMulOk.of_right (by decide +kernel),q⟩
end
section
variable {c:Cx} {P:Pg} (G:Gd c P) {n:Nat} {Q:AV→Zaa→Prop} {E:String→Zaa→Prop} {H:Zaa}
end
theorem Zeq {l:List (Str×Int)} {e:Str×Int} {s:Str}:lk (e::l) s=if e.1=s then some e.2 else lk l s:=by
 unfold lk
 refine rl (List.find?_cons) ?_
 by_cases h:e.1=s<;>simp [h]
theorem Zx7 {l:List (Str×Int)} {k s:Str} {x:Int}:lk (l.map fun e=>if e.1=k then (e.1,x) else e) s=if s=k then (lk l k).map (fun _=>x) else lk l s:=by
 induction l with
 | nil=>by_cases h:s=k<;>simp [h,lk]
 | cons e r ih =>
  refine rl List.map_cons (rl Zeq (rl Zeq (rl Zeq (rl ih ?_))))
  by_cases h:e.1=k
  ·by_cases h2:s=k
   ·simp [h,h2]
   ·have:¬ k=s:=fun e=>h2 e.symm
    simp [h,h2,this]
  ·by_cases h2:s=k
   ·simp [h,h2]
   ·simp [h,h2]
theorem Zx8 {l:List (Str×Int)} {k s:Str} {x:Int} (h:lk l k=none):lk (l++[(k,x)]) s=if s=k then some x else lk l s:=by
 induction l with
 | nil=>refine rl (List.nil_append ..) (rl (Zeq ..) ?_);by_cases h2:s=k<;>simp [h2,lk] ;exact fun e=>absurd e.symm h2
 | cons e r ih =>
  rw [Zeq] at h
  by_cases h1:e.1=k
  ·simp [h1] at h
  ·rw [if_neg h1] at h
   refine rl List.cons_append (rl Zeq (rl Zeq (rl (ih h) ?_)))
   by_cases h2:s=k
   ·simp [h2,h1]
   ·simp [h2]
set_option tactic.hygienic true in
theorem Zs3 {l:List (Str×Int)} {k s:Str} {x:Int}:lk (pt l k x) s=if s=k then some x else lk l s:=by
 unfold pt
 split
 ·rename_i h
  refine rl Zx7 ?_
  obtain ⟨y,hy⟩:=Option.isSome_iff_exists.mp h
  refine rl hy ?_;rfl
 ·rename_i h
  exact Zx8 (by simpa using h)
theorem Z0g {l:List (Str×Int)} {k s:Str} {x:Int}:hs (pt l k x) s=(decide (s=k)||hs l s):=by
 unfold hs;refine rl Zs3 ?_;by_cases h:s=k<;>simp [h]
end Mine
end
section
namespace Mine
noncomputable def pAt:List Pc→Str→Option (Nat×Pc)
 | [],_=>none
 | q::r,k=>if q.name=k then some (0,q) else (pAt r k).map fun e=>(e.1+1,e.2)
theorem Zbb {ps:List Pc} {k:Str} {j:Nat} {q:Pc} (h:pAt ps k=some (j,q)):ps[j]? = some q∧q.name=k:=by
 induction ps generalizing j with
 | nil=>cases h
 | cons q' r ih =>
  unfold pAt at h
  by_cases e:q'.name=k
  ·rw [if_pos e] at h;cases h;exact ⟨rfl,e⟩
  ·rw [if_neg e] at h
   obtain ⟨⟨j',q''⟩,h1,h2⟩:=Option.map_eq_some_iff.mp h
   cases h2
   exact ih h1
section
variable {o:Addr→Option Role} {H H':Zaa}
theorem Zem {i:Nat} {as:List Addr} {ps:List Pc} (h:pactsAt o H i as ps) {k:Str}:Zbu (dP ps as) k=(pAt ps k).bind fun e=>(as[e.1]?).map .ref:=by
 induction ps generalizing i as with
 | nil=>cases as with
  | nil=>rfl
  | cons=>exact h.elim
 | cons q qs ih =>
  cases as with
  | nil=>exact h.elim
  | cons a as =>
  unfold Zbu pAt
  refine rl (List.find?_cons) ?_
  by_cases e:q.name=k
  ·refine rl (if_pos e) (rl (show decide ((q.name,AV.ref a).1=k)=true from decide_eq_true e) ?_);rfl
  ·refine rl (if_neg e) (rl (show decide ((q.name,AV.ref a).1=k)=false from decide_eq_false e) ?_)
   have:=ih h.2
   unfold Zbu at this
   refine rl this ?_
   cases pAt qs k<;>rfl
theorem Zcw {i:Nat} {as:List Addr} {ps:List Pc} {j:Nat} {q:Pc} (h:pactsAt o H i as ps) (e:ps[j]? = some q):∃ a,as[j]? = some a∧IsPact o H (i+j) a q:=by
 induction ps generalizing i as j with
 | nil=>cases e
 | cons q' qs ih =>
  cases as with
  | nil=>exact h.elim
  | cons a as =>
   cases j with
   | zero=>obtain rfl:=Option.some.inj e;exact ⟨a,rfl,h.1⟩
   | succ j =>
    obtain ⟨a',h1,h2⟩:=ih h.2 e
    exact ⟨a',h1,by refine rl (Eq.symm (Nat.add_assoc ..)) (rl (Nat.add_right_comm ..) ?_);exact h2⟩
theorem Zpy {a b:Nat} (h:a≠b):Role.pact a≠.pact b:=fun z=>h (Role.pact.inj z)
theorem Zug {a b:Nat} (h:a≠b):Role.inside a≠.inside b:=fun z=>h (Role.inside.inj z)
theorem Zlh {i:Nat} {as:List Addr} {ps:List Pc} {j:Nat} {a:Addr} {q:Pc} (h:pactsAt o H i as ps) (k:KB (fun r=>r≠.pact (i+j)∧r≠.inside (i+j)) o o H H') (e:as[j]? = some a) (hq:IsPact o H' (i+j) a q):pactsAt o H' i as (ps.set j q):=by
 induction ps generalizing i as j with
 | nil=>cases as with
  | nil=>cases e
  | cons=>exact h.elim
 | cons q' qs ih =>
  cases as with
  | nil=>exact h.elim
  | cons b as =>
   cases j with
   | zero =>
    obtain rfl:=Option.some.inj e
    refine ⟨hq,h.2.congr k ⟨(fun z=>by contradiction),fun z=>by contradiction⟩ fun m hm=>?_⟩
    have hne:m≠i+0:=Nat.ne_of_gt hm
    exact ⟨⟨Zpy hne,fun z=>by contradiction⟩,(fun z=>by contradiction),Zug hne⟩
   | succ j =>
    have hne:i≠i+(j+1):=Nat.ne_of_lt (Nat.lt_add_of_pos_right (Nat.succ_pos j))
    refine ⟨h.1.congr k ⟨(fun z=>by contradiction),fun z=>by contradiction⟩ ⟨⟨Zpy hne,fun z=>by contradiction⟩,(fun z=>by contradiction),Zug hne⟩,?_⟩
    rw [show i+(j+1)=i+1+j by exact rl (Eq.symm (Nat.add_assoc ..)) (rl (Nat.add_right_comm ..) rfl)] at k hq
    exact ih h.2 k e hq
theorem Zq3 {ps:List Pc} {as:List Addr} {j:Nat} {q q':Pc} (h:ps[j]? = some q) (e:q'.name=q.name):dP (ps.set j q') as=dP ps as:=by
 induction ps generalizing as j with
 | nil=>cases h
 | cons p ps ih =>
  cases as with
  | nil=>cases j<;>rfl
  | cons a as =>
   cases j with
   | zero=>obtain rfl:=Option.some.inj h;show (q'.name,AV.ref a)::dP ps as=_;refine rl e ?_;rfl
   | succ j=>show (p.name,AV.ref a)::dP (ps.set j q') as=_;refine rl (ih h) ?_;rfl
theorem IsBook.setPact {b f s p a:Addr} {as:List Addr} {B:Bk} {j:Nat} {q q':Pc} (ib:IsBook o H b f s p as B) (hj:B.pacts[j]? = some q) (ha:as[j]? = some a) (k:KB (fun r=>r≠.pact j∧r≠.inside j) o o H H') (hq:IsPact o H' j a q') (hn:q'.name=q.name):IsBook o H' b f s p as { B with pacts:=B.pacts.set j q' }:=by
 obtain ⟨e1,h1⟩:=ib.hf
 obtain ⟨e2,h2⟩:=ib.hs
 obtain ⟨e3,h3⟩:=ib.hp
 have n:∀ {r:Role},(∀ i,r≠.pact i)→(∀ i,r≠.inside i)→r≠.pact j∧r≠.inside j:=fun h h'=>⟨h j,h' j⟩
 refine ⟨ib.ob,ib.of,ib.os,ib.op,(k b _ _ ⟨(fun z=>by contradiction),fun z=>by contradiction⟩ ib.ob ib.hb rfl).2,⟨e1,(k f _ _ ⟨(fun z=>by contradiction),fun z=>by contradiction⟩ ib.of h1 rfl).2⟩,⟨e2,(k s _ _ ⟨(fun z=>by contradiction),fun z=>by contradiction⟩ ib.os h2 rfl).2⟩,⟨e3,?_⟩,?_⟩
 ·show H' p=some (.dict e3 (dP (B.pacts.set j q') as))
  refine rl (Zq3 hj hn) ?_;exact (k p _ _ ⟨(fun z=>by contradiction),fun z=>by contradiction⟩ ib.op h3 rfl).2
 ·exact Zlh ib.ps (by refine rl (Nat.zero_add ..) ?_;exact k) ha (by refine rl (Nat.zero_add ..) ?_;exact hq)
end
noncomputable def Zbl (B:Bk):AV→Option (Nat×Pc)
 | .str k=>if isNm k then pAt B.pacts k else none
 | _=>none
structure HasP (P:Pg):Prop where
 a:HasA P
 need_pact:P.fns.lookup "Book.need_pact" = some BK.f_Book_need_pact
 need_open:P.fns.lookup "Book.need_open" = some BK.f_Book_need_open
section
variable {c:Cx} {P:Pg} (G:Gd c P) (U:HasP P) {n:Nat} {md:Bool} {Q:AV→Zaa→Prop} {E:String→Zaa→Prop} {H:Zaa} {o:Addr→Option Role} {b f s p:Addr} {as:List Addr} {B:Bk}
theorem Zgz {k:Str} {no:Bool} (ib:IsBook o H b f s p as B) (q:Q (.bool ((pAt B.pacts k).isSome != no)) H):win no (.str k) (.ref p) Q H:=by
 obtain ⟨ep,hp⟩:=ib.hp
 (dsimp only [Ze7];refine rl hp ?_)
 show Q (.bool (nt no (Zbu (dP B.pacts as) k).isSome)) H
 refine rl (Zem ib.ps) (rl nt_eq.symm ?_)
 cases e:pAt B.pacts k with
 | none=>rw [e] at q;exact q
 | some x =>
  obtain ⟨a,h1,_⟩:=Zcw ib.ps (Zbb (j:=x.1) (q:=x.2) e).1
  rw [e] at q
  show Q (.bool (((as[x.1]?).map AV.ref).isSome != no)) H
  refine rl h1 ?_;exact q
theorem Zfl {k:Str} {j:Nat} {x:Pc} (ib:IsBook o H b f s p as B) (e:pAt B.pacts k=some (j,x)) (q:∀ a,as[j]? = some a→IsPact o H j a x→Q (.ref a) H):wsub (.ref p) (.str k) Q H:=by
 obtain ⟨ep,hp⟩:=ib.hp
 obtain ⟨a,h1,h2⟩:=Zcw ib.ps (Zbb e).1
 (dsimp only [Zge];refine rl hp ?_)
 refine ⟨.ref a,?_,q a h1 (by rw [Nat.zero_add] at h2;exact h2)⟩
 refine rl (Zem ib.ps) (rl e ?_)
 show (as[j]?).map AV.ref=_
 refine rl h1 ?_;rfl
include G U
theorem Zc3 {v:AV} (ib:IsBook o H b f s p as B) (hk:Kn H v) (q:match Zbl B v with | some (j,x)=>∀ a,as[j]? = some a→IsPact o H j a x→Q (.ref a) H | none=>E "NoPact" H):CallOK c (n+2) true "Book.need_pact" [.ref b,v] Q E H:=by
 refine G.call (F:=BK.f_Book_need_pact) U.need_pact rfl ?_
 have hA:c.P.attrs=BK.attrs:=by exact rl G.hP (rl U.a.attrs rfl)
 show wpSs _ _ _ _ _ [some (.ref b),some v] _
 refine w_st fun K nx=>?_
 dsimp [v_0,Zai,Zad,Zau,Zbq,Zba,x_ao,Zbp,Zan,Za2,Zat,Zas,Za1,Zao,Zal,x_bm,Zbn,Zaz,Zbj,Zaq,Zah,Zae,Za7,Zav,Zb9,Zb0,Zb1,Zbs,tv,wtg,Zct,Zdm,Ze6,Zcl,Zcq,Zfg,Zdr,c_lt,c_le,c_gt,c_ge,c_eq,c_ne,Zdc,Ze5,c_in,Zd5,Zag,Zfk,Zdo,Zaw,Zeg,Zay,Zbh,Zam,Zar,Za4]
 refine Zf9 G U.a hk ?_
 cases hn:Zdu v with
 | false =>
  have:Zbl B v=none:=by cases v<;>first | rfl | (simp only [Zdu] at hn;simp [Zbl,hn])
  rw [this] at q
  exact ⟨rfl,q⟩
 | true =>
  obtain ⟨k,rfl⟩:∃ k,v = .str k:=⟨_,Zd9 hn⟩
  have hpv:Zbl B (.str k)=pAt B.pacts k:=if_pos hn
  rw [hpv] at q
  (dsimp only [Zag];refine Eq.mpr (if_pos (by decide)) ?_)
  refine Zcr hA ib rfl (Zgz ib ?_)
  cases e:pAt B.pacts k with
  | none =>
   rw [e] at q
   exact ⟨rfl,q⟩
  | some x =>
   rw [e] at q
   refine nx _ _ ?_
   refine w_st fun K nx=>?_
   dsimp only [Zbh,Zat]
   refine Zcr hA ib rfl ?_
   exact Zfl ib (j:=x.1) (x:=x.2) e q
end
end Mine
end
section
namespace Mine
noncomputable def insD (x:Pc):List (Str×AV):=x.inside.map fun k=>(k,.bool true)
section
variable {o:Addr→Option Role} {H:Zaa}
theorem Zd1:∀ {ts:List Addr} {l:List (Str×Int)} {m:Nat} {t:Addr},pairsAV o H ts l→ts[m]? = some t→∃ e,l[m]? = some e∧o t=some .data∧H t=some (.tuple [.str e.1,.int e.2])
 | t::_,e::_,0,_,h,z=>by obtain rfl:=Option.some.inj z;exact ⟨e,rfl,h.1,h.2.1⟩
 | _::ts,_::l,m+1,_,h,z=>Zd1 (m:=m) h.2.2 z
 | [],[],_,_,_,z=>by cases z
 | [],_::_,_,_,h,_=>h.elim
 | _::_,[],_,_,h,_=>h.elim
theorem Zdh:∀ {ts:List Addr} {l:List (Str×Int)},pairsAV o H ts l→ts.length=l.length
 | [],[],_=>rfl
 | _::_,_::_,h=>congrArg Nat.succ (Zdh h.2.2)
 | [],_::_,h=>h.elim
 | _::_,[],h=>h.elim
theorem Ze9 {Q:AV→Zaa→Prop} {a:Addr} {xs:List AV} {i:Int} {v:AV} (h:H a=some (.tuple xs)) (h0:0≤i) (hk:xs[i.toNat]? = some v) (hl:xs.length≤100000) (q:Q v H):wsub (.ref a) (.int i) Q H:=by
 have hlt:i.toNat<xs.length:=(List.getElem?_eq_some_iff.mp hk).1
 (dsimp only [Zgf];refine rl h ?_)
 exact ⟨i.toNat,v,by simp only [Zgn,h0,if_true];exact rl (if_pos (by lia)) rfl,by lia,by lia,hk,q⟩
theorem Zi8 {Q:AV→Zaa→Prop} {t:Addr} {k:Str} {i:Int} (h:H t=some (.tuple [.str k,.int i])) (q:Q (.str k) H):wsub (.ref t) (.int 0) Q H:=Ze9 h (by decide) rfl (by simp) q
theorem Zsg {Q:AV→Zaa→Prop} {t:Addr} {k:Str} {i:Int} (h:H t=some (.tuple [.str k,.int i])) (q:Q (.int i) H):wsub (.ref t) (.int 1) Q H:=Ze9 h (by decide) rfl (by simp) q
end
section
variable {c:Cx} {P:Pg} (G:Gd c P) (U:HasP P) {n:Nat} {md:Bool} {Q:AV→Zaa→Prop} {E:String→Zaa→Prop} {H:Zaa} {o:Addr→Option Role} {b f s p a:Addr} {as:List Addr} {B:Bk} {j:Nat} {x:Pc}
section
variable {g:Gx} {V:VV} {i:Nat} (hP:g.c.P.attrs=BK.attrs) (ip:IsPact o H j a x) (hV:V[i]? = some (some (.ref a)))
include hP ip hV
theorem Zgu (q:Q (.str x.state.str) H):wpX g (.attr (.var i) "state") V Q E H:=by
 obtain ⟨pa,ga,ne,ins,ep,h,_⟩:=ip.at_
 simp only [Za5,Zad,hV,h];exact ⟨by refine rl hP ?_;rfl,q⟩
theorem Zi9 (q:Q (.str x.name) H):wpX g (.attr (.var i) "name") V Q E H:=by
 obtain ⟨pa,ga,ne,ins,ep,h,_⟩:=ip.at_
 simp only [Za5,Zad,hV,h];exact ⟨by refine rl hP ?_;rfl,q⟩
theorem Zfr (q:∀ z,PairsAt o H z x.parts→Q (.ref z) H):wpX g (.attr (.var i) "parts") V Q E H:=by
 obtain ⟨pa,ga,ne,ins,ep,h,h1,_⟩:=ip.at_
 simp only [Za5,Zad,hV,h];exact ⟨by refine rl hP ?_;rfl,q pa h1⟩
theorem Zsh (q:∀ z,PairsAt o H z x.gains→Q (.ref z) H):wpX g (.attr (.var i) "gains") V Q E H:=by
 obtain ⟨pa,ga,ne,ins,ep,h,h1,h2,_⟩:=ip.at_
 simp only [Za5,Zad,hV,h];exact ⟨by refine rl hP ?_;rfl,q ga h2⟩
theorem Zmj (q:∀ z,o z=some .data→H z=some (.list (txs x.needs))→Q (.ref z) H):wpX g (.attr (.var i) "needs") V Q E H:=by
 obtain ⟨pa,ga,ne,ins,ep,h,h1,h2,h3,h4,_⟩:=ip.at_
 simp only [Za5,Zad,hV,h];exact ⟨by refine rl hP ?_;rfl,q ne h3 h4⟩
theorem Zfs (q:∀ z ep,o z=some (.inside j)→H z=some (.dict ep (insD x))→(∀ ep' l,IsPact o (up H z (.dict ep' (l.map fun k=>(k,.bool true)))) j a { x with inside:=l })→Q (.ref z) H):wpX g (.attr (.var i) "inside") V Q E H:=by
 obtain ⟨h0,pa,ga,ne,ins,ep,h,h1,h2,h3,h4,h5,h6⟩:=ip
 simp only [Za5,Zad,hV,h];refine ⟨by refine rl hP ?_;rfl,q ins ep h5 h6 fun ep' l=>?_⟩
 have kb:∀ y,KB (fun r=>r = .data) o o H (up H ins y):=fun y=>Zjc fun r hr z=>by rw [h5] at hr;cases hr;cases z
 exact ⟨h0,pa,ga,ne,ins,ep',by refine rl (Zab (Zcn h0 h5 (by intro z;contradiction))) ?_;exact h,h1.congr (kb _) rfl,h2.congr (kb _) rfl,h3,by refine rl (Zab (Zcn h3 h5 (by intro z;contradiction))) ?_;exact h4,h5,Zac⟩
theorem Zli {m:String} {xs:List X} (hM:g.c.P.meths=BK.meths) (hm:BK.meths.contains ("Pact",m)=true) (hn:["name","parts","gains","needs","last","state","inside"].contains m=false)
  (q:wpXs g xs V (fun vs H=>CallOK g.c g.n g.md ("Pact."++m) (.ref a::vs) Q E H) E H):wpX g (.meth (.var i) m xs) V Q E H:=by
 obtain ⟨pa,ga,ne,ins,ep,h,_⟩:=ip.at_
 simp only [Zbe,Zad,hV,h]
 refine ⟨by refine rl hM ?_;exact hm,?_,q⟩
 simp only [List.contains_cons,List.contains_nil,Bool.or_false,Bool.or_eq_false_iff,beq_eq_false_iff_ne] at hn
 obtain ⟨n1,n2,n3,n4,n5,n6,n7⟩:=hn
 simp [Zeb,n1.symm,n2.symm,n3.symm,n4.symm,n5.symm,n6.symm,n7.symm]
end
include G U
theorem Zeo {v:AV} (ib:IsBook o H b f s p as B) (hk:Kn H v) (q:match Zbl B v with | some (j,x)=>(if x.state = .opn then ∀ a,as[j]? = some a→IsPact o H j a x→Q (.ref a) H else E "NotOpen" H) | none=>E "NoPact" H):CallOK c (n+3) true "Book.need_open" [.ref b,v] Q E H:=by
 refine G.call (F:=BK.f_Book_need_open) U.need_open rfl ?_
 have hA:c.P.attrs=BK.attrs:=by exact rl G.hP (rl U.a.attrs rfl)
 have hM:c.P.meths=BK.meths:=by exact rl G.hP (rl U.a.meths rfl)
 show wpSs _ _ _ _ _ [some (.ref b),some v,none] _
 refine w_st fun K nx=>?_
 dsimp only [Zam]
 refine Zbi hM (by decide) (by decide) ib rfl ?_
 dsimp [v_0,Zai,Zad,Zau,Zbq,Zba,x_ao,Zbp,Zan,Za2,Zat,Zas,Za1,Zao,Zal,x_bm,Zbn,Zaz,Zbj,Zaq,Zah,Zae,Za7,Zav,Zb9,Zb0,Zb1,Zbs,tv,wtg,Zct,Zdm,Ze6,Zcl,Zcq,Zfg,Zdr,c_lt,c_le,c_gt,c_ge,c_eq,c_ne,Zdc,Ze5,c_in,Zd5,Zag,Zfk,Zdo]
 refine Zc3 G U ib hk ?_
 cases e:Zbl B v with
 | none=>rw [e] at q;exact q
 | some z =>
  obtain ⟨j,x⟩:=z
  rw [e] at q
  intro a ha ip
  refine ⟨by decide,nx _ _ ?_⟩
  refine w_st fun K nx=>?_
  dsimp only [Zay,Zan]
  refine Zgu hA ip rfl ?_
  by_cases h:x.state = .opn
  ·have q:∀ a,as[j]? = some a→IsPact o H j a x→Q (.ref a) H:=by simpa only [h,if_true] using q
   refine Eq.mpr (if_neg (by refine rl h ?_;decide)) ?_
   exact nx _ _ (q a ha ip)
  ·have q:E "NotOpen" H:=by simpa only [h,if_false] using q
   refine Eq.mpr (if_pos (by revert h;cases x.state<;>decide)) ?_
   exact ⟨rfl,q⟩
omit U in
theorem Zh8 {k:Str} (hU:P.fns.lookup "Pact.part_of" = some BK.f_Pact_part_of) (hA:c.P.attrs=BK.attrs) (ip:IsPact o H j a x) (q:Q (match lk x.parts k with | some i=>.int i | none=>.none) H):CallOK c (n+1) true "Pact.part_of" [.ref a,.str k] Q E H:=by
 refine G.call (F:=BK.f_Pact_part_of) hU rfl ?_
 refine w_st fun K nx=>?_
 refine ⟨rfl,?_⟩
 refine Zfr hA ip rfl fun z ⟨hz,ts,hts,hl⟩=>?_
 refine Ze3 (xs:=ts.map .ref) (by simp only [Zap,hts]) (fun m V' H'=>H'=H∧(∃ pr,V'=[some (.ref a),some (.str k),pr])∧lk (x.parts.take m) k=none) ⟨rfl,⟨_,rfl⟩,rfl⟩ ?_
 rintro I hI m V' H' ⟨rfl,⟨pr,rfl⟩,hm⟩
 refine ⟨rfl,fun hlen=>?_,fun y hy=>?_⟩
 ·rw [hlen,List.length_map,Zdh hl,List.take_length] at hm
  rw [hm] at q
  exact nx _ _ q
 ·rw [List.getElem?_map,Option.map_eq_some_iff] at hy
  obtain ⟨t,ht,rfl⟩:=hy
  obtain ⟨e,he,_,htt⟩:=Zd1 hl ht
  refine ⟨show 2<3 by decide,?_⟩
  refine w_st fun K nx=>?_
  dsimp [v_0,Zai,Zad,Zau,Zbq,Zba,x_ao,Zbp,Zan,Za2,Zat,Zas,Za1,Zao,Zal,x_bm,Zbn,Zaz,Zbj,Zaq,Zah,Zae,Za7,Zav,Zb9,Zb0,Zb1,Zbs,tv,wtg,Zct,Zdm,Ze6,Zcl,Zcq,Zfg,Zdr,c_lt,c_le,c_gt,c_ge,c_eq,c_ne,Zdc,Ze5,c_in,Zd5,Zag,Zfk,Zdo,Zaw,Zeg,Zay,Zbh,Zam,Zar,Za4]
  refine Zi8 htt ?_
  dsimp only [Zdc,Zag]
  have hsplit:x.parts.take (m+1)=x.parts.take m++[e]:=by refine rl List.take_add_one (rl he ?_);rfl
  by_cases h:e.1=k
  ·refine Eq.mpr (if_pos (by refine rl h ?_;exact beq_self_eq_true k)) ?_
   refine Zsg htt ?_
   have:lk x.parts k=some e.2:=by
    have hlk:lk (x.parts.take (m+1)) k=some e.2:=by
     refine rl hsplit ?_;unfold lk at hm ⊢
     refine rl (List.find?_append) (rl (Option.map_eq_none_iff.mp hm) ?_);simp [h]
    unfold lk at hlk ⊢
    obtain ⟨w,hw,hw2⟩:=Option.map_eq_some_iff.mp hlk
    refine rl (Eq.symm (List.take_append_drop (m+1) x.parts)) (rl (List.find?_append) (rl hw ?_));exact congrArg some hw2
   rw [this] at q
   exact q
  ·refine Eq.mpr (if_neg (by simpa using h)) ?_
   refine nx _ _ (hI _ _ _ ⟨rfl,⟨_,rfl⟩,?_⟩)
   refine rl hsplit ?_;unfold lk at hm ⊢
   refine rl (List.find?_append) (rl (Option.map_eq_none_iff.mp hm) ?_);simp [h]
end
end Mine
end
section
namespace Mine
noncomputable def Zjh (B:Bk) (k:Str) (i:Int):Bk:={ B with aside:=pt B.aside k ((lk B.aside k).getD 0 - i),free:=pt B.free k ((lk B.free k).getD 0+i) }
noncomputable def Zc6 (B:Bk) (v w:AV):Except String Bk :=
 if Za6 B v then
  match Zbl B w with
  | none=>.error "NoPact"
  | some (j,x)=>if x.state = .opn then
    match lk x.parts (Zax v) with
    | none=>.error "NoPart"
    | some i=>if Zax v∈x.inside then .error "Already" else if Zco B v<i then .error "TooLittle" else
      .ok { B with pacts:=B.pacts.set j { x with inside:=x.inside++[Zax v] },free:=pt B.free (Zax v) (Zco B v - i),aside:=pt B.aside (Zax v) (Zfh B v+i) }
   else .error "NotOpen"
 else .error "NoPurse"
noncomputable def Zff (B:Bk) (v w:AV):Except String Bk :=
 if Za6 B v then
  match Zbl B w with
  | none=>.error "NoPact"
  | some (j,x)=>if x.state = .opn then
    if Zax v∈x.inside then .ok (Zjh { B with pacts:=B.pacts.set j { x with inside:=x.inside.filter (·≠Zax v) } } (Zax v) ((lk x.parts (Zax v)).getD 0)) else .error "NotAside"
   else .error "NotOpen"
 else .error "NoPurse"
structure BkOK (B:Bk):Prop where
 sz:B.Sz
 both:∀ k,hs B.free k=true→hs B.aside k=true
 len:B.pacts.length≤100
 part:∀ (j:Nat) (x:Pc),B.pacts[j]? = some x→∀ k∈x.inside,(lk x.parts k).isSome=true
 inl:∀ (j:Nat) (x:Pc),B.pacts[j]? = some x→x.inside.length≤100∧x.parts.length≤100∧x.gains.length≤100∧x.needs.length≤100
 purse:∀ (j:Nat) (x:Pc),B.pacts[j]? = some x→∀ e:Str×Int,e∈x.parts∨e∈x.gains→hs B.free e.1=true
theorem Zce {B:Bk} {w:AV} {j:Nat} {x:Pc} (h:Zbl B w=some (j,x)):B.pacts[j]? = some x:=by
 unfold Zbl at h
 split at h
 ·split at h
  ·exact (Zbb h).1
  ·contradiction
 ·contradiction
theorem Zgy {l:List Str} {k:Str}:(Zbu (l.map fun k=>(k,AV.bool true)) k).isSome=decide (k∈l):=by
 unfold Zbu
 induction l with
 | nil=>rfl
 | cons y r ih =>
  refine rl List.map_cons (rl (List.find?_cons) ?_)
  by_cases e:y=k
  ·refine rl (show decide ((y,AV.bool true).1=k)=true from decide_eq_true e) ?_;simp [e]
  ·refine rl (show decide ((y,AV.bool true).1=k)=false from decide_eq_false e) ?_
   refine ih.trans ?_
   simp [show k≠y from fun z=>e z.symm]
theorem Zp7 {l:List Str} {k:Str} (h:k∈l):Zbu (l.map fun k=>(k,AV.bool true)) k=some (.bool true):=by
 unfold Zbu
 induction l with
 | nil=>cases h
 | cons y r ih =>
  refine rl List.map_cons (rl (List.find?_cons) ?_)
  by_cases e:y=k
  ·refine rl (show decide ((y,AV.bool true).1=k)=true from decide_eq_true e) ?_;rfl
  ·refine rl (show decide ((y,AV.bool true).1=k)=false from decide_eq_false e) ?_
   exact ih ((List.mem_cons.mp h).resolve_left fun z=>e z.symm)
theorem Zlf {l:List Str} {k:Str} (h:k ∉ l):putS (l.map fun k=>(k,AV.bool true)) k (.bool true)=(l++[k]).map fun k=>(k,AV.bool true):=by
 unfold putS
 refine rl Zgy (rl (decide_eq_false h) ?_)
 simp
theorem Zvf {l:List Str} {k:Str}:((l.map fun k=>(k,AV.bool true)).filter fun e=>decide (e.1≠k))=(l.filter (·≠k)).map fun k=>(k,AV.bool true):=by
 refine rl List.filter_map ?_;rfl
section
variable {c:Cx} {P:Pg} (G:Gd c P) (U:HasP P) {n:Nat} {md:Bool} {Q:AV→Zaa→Prop} {E:String→Zaa→Prop} {H:Zaa} {o:Addr→Option Role} {b f s p a:Addr} {as:List Addr} {B:Bk} {j:Nat} {x:Pc}
section
variable {g:Gx} {V:VV} {QN:VV→Zaa→Prop} {i m:Nat} {k:Str} (hP:g.c.P.attrs=BK.attrs) (ib:IsBook o H b f s p as B) (hj:B.pacts[j]? = some x) (ha:as[j]? = some a) (ip:IsPact o H j a x) (hV:V[i]? = some (some (.ref a)))
include hP ib hj ha ip hV
theorem Zow (hm:V[m]? = some (some (.str k))) (hk:k ∉ x.inside) (hl:x.inside.length≤100) (q:∀ H',IsBook o H' b f s p as { B with pacts:=B.pacts.set j { x with inside:=x.inside++[k] } }→Fr1 o H o H'→QN V H'):wpT g (.sub (.attr (.var i) "inside") (.var m)) (.bool true) V QN E H:=by
 dsimp only [tsub]
 refine Zfs hP ip hV fun z ep hz hd up'=>?_
 simp only [Zad,hm,hd]
 refine ⟨by rw [insD,List.length_map];exact Nat.le_trans hl (by decide),fun ep'=>?_⟩
 rw [insD,Zlf hk]
 refine q _ (ib.setPact hj ha (Zjc fun r hr=>by rw [hz] at hr;obtain rfl:=Option.some.inj hr;exact fun w=>w.2 rfl) (up' ep' _) rfl) (Zju (by refine rl hz ?_;simp))
theorem Zmu {no:Bool} {e:X} (he:∀ Q',Q' (.str k) H→wpX g e V Q' E H) (q:Q (.bool (decide (k∈x.inside) != no)) H):wpX g (.cmp (if no then .NotIn else .In) e (.attr (.var i) "inside")) V Q E H:=by
 refine he _ (Zfs hP ip hV fun z ep hz hd up'=>?_)
 have:win no (.str k) (.ref z) Q H:=by
  (dsimp only [Ze7];refine rl hd ?_)
  show Q (.bool (nt no (Zbu (insD x) k).isSome)) H
  rw [insD,Zgy,← nt_eq];exact q
 cases no<;>exact this
end
include G U
omit U in
theorem Zjf {k:Str} {i:Int} (hU:P.fns.lookup "Book.given_back" = some BK.f_Book_given_back) (hA:c.P.attrs=BK.attrs) (ib:IsBook o H b f s p as B) (hz:B.Sz) (hf:hs B.free k=true) (hs':hs B.aside k=true) (q:∀ H',IsBook o H' b f s p as (Zjh B k i)→Fr1 o H o H'→Q .none H'):CallOK c (n+1) true "Book.given_back" [.ref b,.str k,.int i] Q E H:=by
 refine G.call (F:=BK.f_Book_given_back) hU rfl ?_
 show wpSs _ _ _ _ _ [some (.ref b),some (.str k),some (.int i)] _
 refine w_st fun K nx=>?_
 dsimp only [Zam,Zau,Zat]
 refine Zds hA ib rfl (Zeh ib (Zep hs') ?_)
 dsimp only [Zad,List.getElem?_cons_succ,v_0,Zdm]
 refine Zi3 (k:=k) hA ib hz.2 rfl rfl fun H1 ib1 f1=>nx _ _ ?_
 refine w_st fun K nx=>?_
 dsimp only [Zam,Zau,Zat]
 refine Zcs hA ib1 rfl (Zc8 (v:=(lk B.free k).getD 0) ib1 (Zep hf) ?_)
 dsimp only [Zad,List.getElem?_cons_succ,v_0,Zct]
 refine Zg9 (k:=k) hA ib1 hz.1 rfl rfl fun H2 ib2 f2=>nx _ _ ?_
 exact q H2 ib2 (f1.trans f2)
theorem Zrk {v w:AV} (hU:P.fns.lookup "Book.set_aside" = some BK.f_Book_set_aside) (hU2:P.fns.lookup "Pact.part_of" = some BK.f_Pact_part_of) (ib:IsBook o H b f s p as B) (hk:Kn H v) (hw:Kn H w) (ok:BkOK B)
  (q:Ends (Zc6 B v w) (fun B'=>∀ H',IsBook o H' b f s p as B'→Fr1 o H o H'→Q .none H') (fun cl=>E cl H)):CallOK c (n+4) true "Book.set_aside" [.ref b,v,w] Q E H:=by
 refine G.call (F:=BK.f_Book_set_aside) hU rfl ?_
 have hA:c.P.attrs=BK.attrs:=by exact rl G.hP (rl U.a.attrs rfl)
 have hM:c.P.meths=BK.meths:=by exact rl G.hP (rl U.a.meths rfl)
 show wpSs _ _ _ _ _ [some (.ref b),some v,some w,none,none] _
 unfold Zc6 at q
 refine w_st fun K nx=>?_
 dsimp only [Zar]
 refine Zbi hM (by decide) (by decide) ib rfl ?_
 dsimp only [String.reduceAppend,Zae,Zah,Zad,List.getElem?_cons_succ,v_0]
 refine Zbw G U.a ib hk ?_
 cases hp:Za6 B v with
 | false=>rw [hp] at q;exact q
 | true =>
 obtain ⟨k,rfl⟩:∃ k,v = .str k:=⟨_,(Zbd hp).1⟩
 have hf:=Zex hp
 have hs':=Zep (ok.both _ (Zbd hp).2)
 rw [hp] at q
 refine nx _ _ ?_
 refine w_st fun K nx=>?_
 dsimp only [Zam]
 refine Zbi hM (by decide) (by decide) ib rfl ?_
 dsimp only [String.reduceAppend,tv,List.length_cons,List.length_nil,Nat.reduceAdd,List.set_cons_succ,List.set_cons_zero,Zae,Zah,Zad,List.getElem?_cons_succ,v_0]
 refine Zeo G U ib hw ?_
 cases e:Zbl B w with
 | none=>rw [e] at q;exact q
 | some z =>
 obtain ⟨j,x⟩:=z
 rw [e] at q
 have hj:=Zce e
 show if x.state = .opn then _ else _
 by_cases ho:x.state = .opn
 case neg =>
  refine Eq.mpr (if_neg ho) ?_
  rw [if_pos rfl] at q
  dsimp only at q
  rw [if_neg ho] at q
  exact q
 refine Eq.mpr (if_pos ho) ?_
 rw [if_pos rfl] at q
 dsimp only at q
 rw [if_pos ho] at q
 intro a ha ip
 refine ⟨by decide,nx _ _ ?_⟩
 refine w_st fun K nx=>?_
 dsimp only [Zam]
 refine Zli hA ip rfl hM (by decide) (by decide) ?_
 dsimp only [String.reduceAppend,tv,List.length_cons,List.length_nil,Nat.reduceAdd,List.set_cons_succ,List.set_cons_zero,Zae,Zah,Zad,List.getElem?_cons_succ,v_0]
 refine Zh8 G hU2 hA ip ?_
 refine ⟨by decide,nx _ _ ?_⟩
 refine w_st fun K nx=>?_
 cases hl:lk x.parts k with
 | none =>
  have q:E "NoPart" H:=by rw [show Zax (.str k)=k from rfl,hl] at q;exact q
  exact ⟨rfl,q⟩
 | some i =>
 rw [show Zax (.str k)=k from rfl,hl] at q
 refine nx _ _ ?_
 refine w_st fun K nx=>?_
 refine Zmu (no:=false) (k:=k) hA ib hj ha ip rfl (fun Q' h=>h) ?_
 by_cases hi:k∈x.inside
 ·refine rl (decide_eq_true hi) ?_
  have q:E "Already" H:=by simpa only [hi,if_true,Ends] using q
  exact ⟨rfl,q⟩
 refine rl (decide_eq_false hi) ?_
 have q:Ends (if Zco B (.str k)<i then .error "TooLittle" else .ok { B with pacts:=B.pacts.set j { x with inside:=x.inside++[k] },free:=pt B.free k (Zco B (.str k) - i),aside:=pt B.aside k (Zfh B (.str k)+i) }) (fun B'=>∀ H',IsBook o H' b f s p as B'→Fr1 o H o H'→Q .none H') (fun cl=>E cl H):=by simpa only [hi,if_false] using q
 refine nx _ _ ?_
 refine w_st fun K nx=>?_
 dsimp only [Zay,Zan,Zat]
 refine Zcs hA ib rfl (Zc8 ib hf ?_)
 dsimp only [Zad,List.getElem?_cons_succ,v_0,c_lt,Zag,decide_eq_true_eq]
 by_cases hlt:Zco B (.str k)<i
 ·refine rl (decide_eq_true hlt) ?_
  have q:E "TooLittle" H:=by simpa only [hlt,if_true,Ends] using q
  exact ⟨rfl,q⟩
 refine rl (decide_eq_false hlt) ?_
 have q:∀ H',IsBook o H' b f s p as { B with pacts:=B.pacts.set j { x with inside:=x.inside++[k] },free:=pt B.free k (Zco B (.str k) - i),aside:=pt B.aside k (Zfh B (.str k)+i) }→Fr1 o H o H'→Q .none H':=by simpa only [hlt,if_false,Ends] using q
 refine nx _ _ ?_
 refine w_st fun K nx=>?_
 dsimp only [Zam,Zai]
 refine Zow (k:=k) hA ib hj ha ip rfl rfl hi (ok.inl j x hj).1 fun H1 ib1 f1=>nx _ _ ?_
 refine w_st fun K nx=>?_
 dsimp only [Zam,Zau,Zat]
 refine Zcs hA ib1 rfl (Zc8 (v:=Zco B (.str k)) ib1 hf ?_)
 dsimp only [Zad,List.getElem?_cons_succ,v_0,Zdm]
 refine Zg9 (k:=k) hA ib1 ok.sz.1 rfl rfl fun H2 ib2 f2=>nx _ _ ?_
 refine w_st fun K nx=>?_
 dsimp only [Zam,Zau,Zat]
 refine Zds hA ib2 rfl (Zeh (v:=Zfh B (.str k)) ib2 hs' ?_)
 dsimp only [Zad,List.getElem?_cons_succ,v_0,Zct]
 refine Zi3 (k:=k) hA ib2 ok.sz.2 rfl rfl fun H3 ib3 f3=>nx _ _ ?_
 exact q H3 ib3 ((f1.trans f2).trans f3)
end
end Mine
end
section
namespace Mine
noncomputable def Zck (x:Pc):Bool:=x.state==.opn&&x.inside.length==x.parts.length
theorem Zi2 {x:Sta}:(x.str==Str.ofString "open")=(x==.opn):=by cases x<;>decide
theorem Zw3 {x:Sta}:(x.str==Str.ofString "done")=(x==.dn):=by cases x<;>decide
theorem Zov {x:Sta}:(x.str==Str.ofString "fallen")=(x==.fln):=by cases x<;>decide
section
variable {c:Cx} {P:Pg} (G:Gd c P) (U:HasP P) {n:Nat} {md:Bool} {Q:AV→Zaa→Prop} {E:String→Zaa→Prop} {H:Zaa} {o:Addr→Option Role} {b f s p a:Addr} {as:List Addr} {B:Bk} {j:Nat} {x:Pc}
section
variable {g:Gx} {V:VV} {QN:VV→Zaa→Prop} {i m:Nat} {k:Str} (hP:g.c.P.attrs=BK.attrs) (ib:IsBook o H b f s p as B) (hj:B.pacts[j]? = some x) (ha:as[j]? = some a) (ip:IsPact o H j a x) (hV:V[i]? = some (some (.ref a)))
include hP ib hj ha ip hV
theorem Znm {e:X} (he:∀ Q',Q' (.str k) H→wpX g e V Q' E H) (hk:k∈x.inside) (hl:x.inside.length≤100) (q:∀ H',IsBook o H' b f s p as { B with pacts:=B.pacts.set j { x with inside:=x.inside.filter (·≠k) } }→IsPact o H' j a { x with inside:=x.inside.filter (·≠k) }→Fr1 o H o H'→Q (.bool true) H'):wpX g (.bm (.attr (.var i) "inside") .pop [e]) V Q E H:=by
 dsimp only [x_bm]
 refine Zfs hP ip hV fun z ep hz hd up'=>?_
 refine ⟨?_,?_⟩
 ·show match H z with | some (.list _)=>_ | some (.dict _ _)=>_ | _=>False
  refine rl hd ?_;first | exact .inr rfl | exact .inr (.inl rfl)
 dsimp only [Zae]
 refine he _ ?_
 (dsimp only [Zah,Zx1];refine rl hd ?_)
 refine ⟨by rw [insD,List.length_map];exact Nat.le_trans hl (by decide),.bool true,Zp7 hk,fun ep'=>?_⟩
 rw [insD,Zvf]
 exact q _ (ib.setPact hj ha (Zjc fun r hr=>by rw [hz] at hr;obtain rfl:=Option.some.inj hr;exact fun w=>w.2 rfl) (up' ep' _) rfl) (up' ep' _) (Zju (by refine rl hz ?_;simp))
end
include G U
set_option tactic.hygienic true in
omit U in
theorem Zim (hU:P.fns.lookup "Pact.is_full" = some BK.f_Pact_is_full) (hA:c.P.attrs=BK.attrs) (ip:IsPact o H j a x) (h1:x.inside.length≤100) (h2:x.parts.length≤100) (q:Q (.bool (Zck x)) H):CallOK c (n+1) md "Pact.is_full" [.ref a] Q E H:=by
 refine G.call (F:=BK.f_Pact_is_full) hU rfl ?_
 show wpSs _ _ _ _ _ [some (.ref a)] _
 refine w_st fun K nx=>?_
 dsimp only [Zbh,x_ao,Zav,Zan]
 refine Zgu hA ip rfl ?_
 (dsimp only [Zai,Zdc,Zag];refine rl Zi2 ?_)
 unfold Zck at q
 cases hs:x.state==Sta.opn with
 | false=>rw [hs] at q;exact q
 | true =>
  rw [hs] at q
  refine Eq.mpr (if_pos rfl) (Eq.mpr (Za7) (Eq.mpr (Zan) (Eq.mpr (Zal) (Eq.mpr (Zae) ?_))))
  refine Zfs hA ip rfl fun z ep hz hd _=>?_
  refine rl Zah (rl Zee (rl hd ?_))
  refine ⟨by rw [insD,List.length_map];exact Nat.lt_of_le_of_lt (by assumption) (by decide),?_⟩
  refine rl Zal (rl Zae ?_)
  refine Zfr hA ip rfl fun z' ⟨_,ts,hts,hl⟩=>?_
  (dsimp only [Zah,Zee];refine rl hts ?_)
  have e1:=Zdh hl
  refine ⟨by refine rl (List.length_map ..) ?_;lia,?_⟩
  (dsimp only [c_eq];rw [insD,List.length_map,List.length_map,e1])
  have:(((x.inside.length:Nat):Int)==((x.parts.length:Nat):Int))=(x.inside.length==x.parts.length):=by
   by_cases h:x.inside.length=x.parts.length
   ·refine rl h ?_;simp
   ·refine rl (beq_eq_false_iff_ne.mpr h) ?_;exact beq_eq_false_iff_ne.mpr fun z=>h (Int.ofNat.inj z)
  refine rl this ?_;exact q
theorem Ztl {v w:AV} (hU:P.fns.lookup "Book.draw_back" = some BK.f_Book_draw_back) (hU2:P.fns.lookup "Pact.part_of" = some BK.f_Pact_part_of) (hU3:P.fns.lookup "Book.given_back" = some BK.f_Book_given_back) (ib:IsBook o H b f s p as B) (hk:Kn H v) (hw:Kn H w) (ok:BkOK B)
  (q:Ends (Zff B v w) (fun B'=>∀ H',IsBook o H' b f s p as B'→Fr1 o H o H'→Q .none H') (fun cl=>E cl H)):CallOK c (n+4) true "Book.draw_back" [.ref b,v,w] Q E H:=by
 refine G.call (F:=BK.f_Book_draw_back) hU rfl ?_
 have hA:c.P.attrs=BK.attrs:=by exact rl G.hP (rl U.a.attrs rfl)
 have hM:c.P.meths=BK.meths:=by exact rl G.hP (rl U.a.meths rfl)
 show wpSs _ _ _ _ _ [some (.ref b),some v,some w,none] _
 unfold Zff at q
 refine w_st fun K nx=>?_
 dsimp only [Zar]
 refine Zbi hM (by decide) (by decide) ib rfl ?_
 dsimp only [String.reduceAppend,Zae,Zah,Zad,List.getElem?_cons_succ,v_0]
 refine Zbw G U.a ib hk ?_
 cases hp:Za6 B v with
 | false=>rw [hp] at q;exact q
 | true =>
 obtain ⟨k,rfl⟩:∃ k,v = .str k:=⟨_,(Zbd hp).1⟩
 have hf:=(Zbd hp).2
 have hs':=ok.both _ hf
 rw [hp] at q
 refine nx _ _ ?_
 refine w_st fun K nx=>?_
 dsimp only [Zam]
 refine Zbi hM (by decide) (by decide) ib rfl ?_
 dsimp only [String.reduceAppend,tv,List.length_cons,List.length_nil,Nat.reduceAdd,List.set_cons_succ,List.set_cons_zero,Zae,Zah,Zad,List.getElem?_cons_succ,v_0]
 refine Zeo G U ib hw ?_
 cases e:Zbl B w with
 | none=>rw [e] at q;exact q
 | some z =>
 obtain ⟨j,x⟩:=z
 rw [e] at q
 have hj:=Zce e
 show if x.state = .opn then _ else _
 by_cases ho:x.state = .opn
 case neg =>
  refine Eq.mpr (if_neg ho) ?_
  rw [if_pos rfl] at q
  dsimp only at q
  rw [if_neg ho] at q
  exact q
 refine Eq.mpr (if_pos ho) ?_
 rw [if_pos rfl] at q
 dsimp only at q
 rw [if_pos ho] at q
 intro a ha ip
 refine ⟨by decide,nx _ _ ?_⟩
 refine w_st fun K nx=>?_
 refine Zmu (no:=true) (k:=k) hA ib hj ha ip rfl (fun Q' h=>h) ?_
 by_cases hi:k∈x.inside
 case neg =>
  refine rl (decide_eq_false hi) ?_
  rw [if_neg (show Zax (.str k) ∉ x.inside from hi)] at q
  exact ⟨rfl,q⟩
 refine rl (decide_eq_true hi) ?_
 rw [if_pos (show Zax (.str k)∈x.inside from hi)] at q
 have q:∀ H',IsBook o H' b f s p as (Zjh { B with pacts:=B.pacts.set j { x with inside:=x.inside.filter (·≠k) } } k ((lk x.parts k).getD 0))→Fr1 o H o H'→Q .none H':=q
 refine nx _ _ ?_
 refine w_st fun K nx=>?_
 dsimp only [Zar]
 refine Znm (k:=k) hA ib hj ha ip rfl (fun Q' h=>h) hi (ok.inl j x hj).1 fun H1 ib1 ip1 f1=>nx _ _ ?_
 refine w_st fun K nx=>?_
 dsimp only [Zar]
 refine Zbi hM (by decide) (by decide) ib1 rfl ?_
 refine Eq.mpr (Zae) (Eq.mpr (Zad) ?_)
 dsimp only [Zae]
 refine Zli hA ip1 rfl hM (by decide) (by decide) ?_
 refine Zh8 G hU2 hA ip1 ?_
 obtain ⟨i,hl⟩:=Option.isSome_iff_exists.mp (ok.part j x hj k hi)
 rw [hl] at q
 refine rl hl ?_
 exact Zjf G hU3 hA ib1 ok.sz hf hs' fun H2 ib2 f2=>nx _ _ (q H2 ib2 (f1.trans f2))
theorem Zj1 {v:AV} (hU:P.fns.lookup "Book.state_of" = some BK.f_Book_state_of) (ib:IsBook o H b f s p as B) (hk:Kn H v) (q:match Zbl B v with | some (j,x)=>Q (.str x.state.str) H | none=>E "NoPact" H):CallOK c (n+3) true "Book.state_of" [.ref b,v] Q E H:=by
 refine G.call (F:=BK.f_Book_state_of) hU rfl ?_
 have hA:c.P.attrs=BK.attrs:=by exact rl G.hP (rl U.a.attrs rfl)
 have hM:c.P.meths=BK.meths:=by exact rl G.hP (rl U.a.meths rfl)
 refine w_st fun K nx=>?_
 dsimp only [Zbh,Za5]
 refine Zbi hM (by decide) (by decide) ib rfl ?_
 refine Zc3 G U ib hk ?_
 cases e:Zbl B v with
 | none=>rw [e] at q;exact q
 | some z =>
  obtain ⟨j,x⟩:=z
  rw [e] at q
  intro a ha ip
  obtain ⟨pa,ga,ne,ins,ep,h,_⟩:=ip.at_
  show match H a with | some (.inst _ _)=>_ | some (.book _)=>_ | _=>False
  refine rl h ?_;exact ⟨by refine rl hA ?_;rfl,q⟩
theorem Ztc {v:AV} (hU:P.fns.lookup "Book.full" = some BK.f_Book_full) (hU2:P.fns.lookup "Pact.is_full" = some BK.f_Pact_is_full) (ib:IsBook o H b f s p as B) (ok:BkOK B) (hk:Kn H v) (q:match Zbl B v with | some (j,x)=>Q (.bool (Zck x)) H | none=>E "NoPact" H):CallOK c (n+3) true "Book.full" [.ref b,v] Q E H:=by
 refine G.call (F:=BK.f_Book_full) hU rfl ?_
 have hA:c.P.attrs=BK.attrs:=by exact rl G.hP (rl U.a.attrs rfl)
 have hM:c.P.meths=BK.meths:=by exact rl G.hP (rl U.a.meths rfl)
 show wpSs _ _ _ _ _ [some (.ref b),some v] _
 refine w_st fun K nx=>?_
 refine Eq.mpr (Zbh) (Eq.mpr (Zbe) ?_)
 refine Zbi hM (by decide) (by decide) ib rfl ?_
 dsimp only [String.reduceAppend,Zah,Zae,Zad,List.getElem?_cons_succ,v_0]
 refine Zc3 G U ib hk ?_
 cases e:Zbl B v with
 | none=>rw [e] at q;exact q
 | some z =>
  obtain ⟨j,x⟩:=z
  rw [e] at q
  intro a ha ip
  obtain ⟨pa,ga,ne,ins,ep,h,_⟩:=id ip.at_
  have hl:=ok.inl j x (Zce e)
  show match H a with | some (.inst _ _)=>_ | some (.book _)=>_ | _=>False
  refine rl h ?_;exact ⟨by refine rl hM ?_;rfl,rfl,Zim G hU2 hA ip hl.1 hl.2.1 q⟩
end
end Mine
end
section
namespace Mine
noncomputable def Zcx (ins:List Str):List (Str×Int)→Bk→Bk
 | [],B=>B
 | e::l,B=>Zcx ins l (if e.1∈ins then Zjh B e.1 e.2 else B)
noncomputable def Zd2 (B:Bk) (j:Nat) (x:Pc):Bk:={ Zcx x.inside x.parts B with pacts:=B.pacts.set j { x with inside:=[],state:=.fln } }
theorem Zet {ins:List Str} {e:Str×Int}:∀ {l:List (Str×Int)} {B:Bk},Zcx ins (l++[e]) B=(if e.1∈ins then Zjh (Zcx ins l B) e.1 e.2 else Zcx ins l B)
 | [],B=>rfl
 | e'::l,B=>Zet (l:=l)
theorem Zek {l:List (Str×Int)} {k:Str} {x:Int} (h:hs l k=true):(pt l k x).length=l.length∧∀ s,hs (pt l k x) s=hs l s:=by
 refine ⟨?_,fun s=>?_⟩
 ·unfold pt;exact rl (if_pos (show (lk l k).isSome=true from h) ..) (rl (List.length_map ..) rfl)
 ·refine rl Z0g ?_
  by_cases e:s=k
  ·refine rl e (rl h ?_);simp
  ·simp [e]
structure SameB (B B':Bk):Prop where
 day:B'.day=B.day
 fl:B'.free.length=B.free.length
 al:B'.aside.length=B.aside.length
 fh:∀ s,hs B'.free s=hs B.free s
 ah:∀ s,hs B'.aside s=hs B.aside s
theorem SameB.refl {B:Bk}:SameB B B:=⟨rfl,rfl,rfl,fun _=>rfl,fun _=>rfl⟩
theorem SameB.trans {B B' B'':Bk} (x:SameB B B') (y:SameB B' B''):SameB B B'':=⟨y.day.trans x.day,y.fl.trans x.fl,y.al.trans x.al,fun s=>(y.fh s).trans (x.fh s),fun s=>(y.ah s).trans (x.ah s)⟩
theorem SameB.give {B:Bk} {k:Str} {i:Int} (h:hs B.free k=true) (h':hs B.aside k=true):SameB B (Zjh B k i):=⟨rfl,(Zek h).1,(Zek h').1,(Zek h).2,(Zek h').2⟩
theorem SameB.all {ins:List Str}:∀ {l:List (Str×Int)} {B:Bk},(∀ e∈l,hs B.free e.1=true∧hs B.aside e.1=true)→SameB B (Zcx ins l B)∧(Zcx ins l B).pacts=B.pacts
 | [],B,_=>⟨.refl,rfl⟩
 | e::l,B,h=>by
  have h0:=h e List.mem_cons_self
  unfold Zcx
  by_cases hi:e.1∈ins
  ·refine rl (if_pos hi) ?_
   have s1:=SameB.give (i:=e.2) h0.1 h0.2
   obtain ⟨s2,p2⟩:=SameB.all (ins:=ins) (l:=l) (B:=Zjh B e.1 e.2) fun e' he=>by refine rl (s1.fh ..) (rl (s1.ah ..) ?_);exact h e' (List.mem_cons_of_mem _ he)
   exact ⟨s1.trans s2,p2⟩
  ·refine rl (if_neg hi) ?_
   exact SameB.all fun e' he=>h e' (List.mem_cons_of_mem _ he)
theorem BkOK.keep {B B':Bk} (ok:BkOK B) (sm:SameB B B') (hl:B'.pacts.length=B.pacts.length) (hp:∀ (j:Nat) (y:Pc),B'.pacts[j]? = some y→∃ x,B.pacts[j]? = some x∧y.parts=x.parts∧y.gains=x.gains∧y.needs=x.needs∧∀ k∈y.inside,(lk x.parts k).isSome=true) (hi:∀ (j:Nat) (y:Pc),B'.pacts[j]? = some y→y.inside.length≤100):BkOK B':=by
 refine ⟨⟨by refine rl sm.fl ?_;exact ok.sz.1,by refine rl sm.al ?_;exact ok.sz.2⟩,fun k h=>?_,by refine rl hl ?_;exact ok.len,fun j y hy k hk=>?_,fun j y hy=>?_,fun j y hy e he=>?_⟩
 ·refine rl (sm.ah ..) ?_;rw [sm.fh] at h;exact ok.both k h
 ·obtain ⟨x,h1,h2,h3,h4,h5⟩:=hp j y hy
  refine rl h2 ?_;exact h5 k hk
 ·obtain ⟨x,h1,h2,h3,h4,h5⟩:=hp j y hy
  have:=ok.inl j x h1
  exact ⟨hi j y hy,by refine rl h2 ?_;exact this.2.1,by refine rl h3 ?_;exact this.2.2.1,by refine rl h4 ?_;exact this.2.2.2⟩
 ·obtain ⟨x,h1,h2,h3,h4,h5⟩:=hp j y hy
  rw [h2,h3] at he
  refine rl (sm.fh ..) ?_;exact ok.purse j x h1 e he
set_option tactic.hygienic true in
theorem Zhc {ps:List Pc} {j m:Nat} {x' y:Pc} (h:(ps.set j x')[m]? = some y):(m=j∧y=x'∧j<ps.length)∨(m≠j∧ps[m]? = some y):=by
 rw [List.getElem?_set] at h
 by_cases e:j=m
 ·rw [if_pos e] at h
  split at h
  ·obtain rfl:=Option.some.inj h;exact .inl ⟨e.symm,rfl,by assumption⟩
  ·contradiction
 ·rw [if_neg e] at h;exact .inr ⟨fun z=>e z.symm,h⟩
theorem BkOK.giveAble {B:Bk} {j:Nat} {x:Pc} (ok:BkOK B) (hj:B.pacts[j]? = some x):∀ e∈x.parts,hs B.free e.1=true∧hs B.aside e.1=true:=fun e he=>have h:=ok.purse j x hj e (.inl he);⟨h,ok.both _ h⟩
theorem BkOK.fell {B:Bk} {j:Nat} {x:Pc} (ok:BkOK B) (hj:B.pacts[j]? = some x):BkOK (Zd2 B j x):=by
 obtain ⟨sm,hp⟩:=SameB.all (ins:=x.inside) (ok.giveAble hj)
 refine ok.keep ⟨sm.day,sm.fl,sm.al,sm.fh,sm.ah⟩ List.length_set (fun m y hy=>?_) fun m y hy=>?_
 ·rcases Zhc hy with ⟨rfl,rfl,_⟩ | ⟨_,h⟩
  ·exact ⟨x,hj,rfl,rfl,rfl,fun k hk=>by contradiction⟩
  ·exact ⟨y,h,rfl,rfl,rfl,ok.part m y h⟩
 ·rcases Zhc hy with ⟨rfl,rfl,_⟩ | ⟨_,h⟩
  ·exact Nat.zero_le _
  ·exact (ok.inl m y h).1
section
variable {c:Cx} {P:Pg} (G:Gd c P) (U:HasP P) {n:Nat} {md:Bool} {Q:AV→Zaa→Prop} {E:String→Zaa→Prop} {H:Zaa} {o:Addr→Option Role} {b f s p a:Addr} {as:List Addr} {B:Bk} {j:Nat} {x:Pc}
theorem IsBook.pact (ib:IsBook o H b f s p as B) (hj:B.pacts[j]? = some x) (ha:as[j]? = some a):IsPact o H j a x:=by
 obtain ⟨a',h1,h2⟩:=Zcw ib.ps hj
 rw [ha] at h1;obtain rfl:=Option.some.inj h1
 rw [Nat.zero_add] at h2;exact h2
noncomputable def KD (o:Addr→Option Role) (H H':Zaa):Prop:=∀ y,o y=some .data→H' y=H y
theorem KD.up {y:Addr} {z:AObj} {r:Role} (h:o y=some r) (hr:r≠.data):KD o H (up H y z):=fun w hw=>Zab fun e=>by subst e;rw [h] at hw;obtain rfl:=Option.some.inj hw;exact hr rfl
theorem KD.trans {H' H'':Zaa} (h:KD o H H') (h':KD o H' H''):KD o H H'':=fun y hy=>(h' y hy).trans (h y hy)
include G U
omit U in
theorem Zjg {k:Str} {i:Int} (hU:P.fns.lookup "Book.given_back" = some BK.f_Book_given_back) (hA:c.P.attrs=BK.attrs) (ib:IsBook o H b f s p as B) (hz:B.Sz) (hf:hs B.free k=true) (hs':hs B.aside k=true) (q:∀ H',IsBook o H' b f s p as (Zjh B k i)→Fr1 o H o H'→KD o H H'→Q .none H'):CallOK c (n+1) true "Book.given_back" [.ref b,.str k,.int i] Q E H:=by
 refine G.call (F:=BK.f_Book_given_back) hU rfl ?_
 show wpSs _ _ _ _ _ [some (.ref b),some (.str k),some (.int i)] _
 obtain ⟨ef,hf0⟩:=ib.hf
 obtain ⟨es,hs0⟩:=ib.hs
 have hfs:f≠s:=Zcn ib.of ib.os (by intro h;contradiction)
 refine w_st fun K nx=>?_
 dsimp only [Zam,Zau,Zat]
 refine Zds hA ib rfl (Zeh ib (Zep hs') ?_)
 dsimp only [Zad,List.getElem?_cons_succ,v_0,Zdm,tsub]
 refine Zds hA ib rfl ?_
 dsimp only [Nat.reducePow,Zad,List.getElem?_cons_succ,v_0]
 refine rl hs0 ?_
 refine ⟨by refine rl Zc4 ?_;exact hz.2,fun e1=>nx _ _ ?_⟩
 refine rl Zfn ?_
 have ib1:=ib.setAside e1 (pt B.aside k ((lk B.aside k).getD 0 - i))
 refine w_st fun K nx=>?_
 dsimp only [Zam,Zau,Zat]
 refine Zcs hA ib1 rfl (Zc8 (v:=(lk B.free k).getD 0) ib1 (Zep hf) ?_)
 dsimp only [Zad,List.getElem?_cons_succ,v_0,Zct,tsub]
 refine Zcs hA ib1 rfl ?_
 dsimp only [Nat.reducePow,Zad,List.getElem?_cons_succ,v_0]
 refine rl (Zab hfs) (rl hf0 ?_)
 refine ⟨by refine rl Zc4 ?_;exact hz.1,fun e2=>nx _ _ ?_⟩
 refine rl Zfn ?_
 exact q _ (ib1.setFree e2 _) ((Zju (by refine rl ib.os ?_;simp)).trans (Zju (by refine rl ib.of ?_;simp))) ((KD.up ib.os (by intro h;contradiction)).trans (KD.up ib.of (by intro h;contradiction)))
theorem Zqq (hU:P.fns.lookup "Book.fell" = some BK.f_Book_fell) (hU2:P.fns.lookup "Book.given_back" = some BK.f_Book_given_back) (ib:IsBook o H b f s p as B) (ok:BkOK B) (hj:B.pacts[j]? = some x) (ha:as[j]? = some a)
  (q:∀ o' H',IsBook o' H' b f s p as (Zd2 B j x)→Fr1 o H o' H'→Q (.str x.name) H'):CallOK c (n+2) true "Book.fell" [.ref b,.ref a] Q E H:=by
 refine G.call (F:=BK.f_Book_fell) hU rfl ?_
 have hA:c.P.attrs=BK.attrs:=by exact rl G.hP (rl U.a.attrs rfl)
 have hM:c.P.meths=BK.meths:=by exact rl G.hP (rl U.a.meths rfl)
 have hC:∀ n,BK.attrs.contains ("Pact",n)=true→c.P.attrs.contains ("Pact",n)=true:=fun n h=>by refine rl hA ?_;exact h
 have able:=ok.giveAble hj
 refine w_st fun K nx=>?_
 refine ⟨rfl,?_⟩
 refine Zfr hA (ib.pact hj ha) rfl fun z ⟨hz,ts,hts,hl⟩=>?_
 refine Ze3 (xs:=ts.map .ref) (by simp only [Zap,hts]) (fun m V' H'=>(∃ pr,V'=[some (.ref b),some (.ref a),pr])∧IsBook o H' b f s p as (Zcx x.inside (x.parts.take m) B)∧Fr1 o H o H'∧KD o H H') ⟨⟨_,rfl⟩,by refine rl List.take_zero ?_;exact ib,.refl,fun _ _=>rfl⟩ ?_
 rintro I hI m V' H' ⟨⟨pr,rfl⟩,ib',fr',kd'⟩
 obtain ⟨sm,hp⟩:=SameB.all (ins:=x.inside) (l:=x.parts.take m) (B:=B) fun e he=>able e (List.mem_of_mem_take he)
 have hj':(Zcx x.inside (x.parts.take m) B).pacts[j]? = some x:=by refine rl hp ?_;exact hj
 refine ⟨kd' z hz,fun hlen=>?_,fun y hy=>?_⟩
 ·rw [hlen,List.length_map,Zdh hl,List.take_length] at ib' sm hp hj'
  refine nx _ _ ?_
  obtain ⟨h0,pa,ga,ne,ins,ep,h,h1,h2,h3,h4,h5,h6⟩:=ib'.pact hj' ha
  refine w_st fun K nx=>?_
  intro w hw
  have haw:a≠w:=fun e=>by rw [e,hw] at h;contradiction
  refine st_a rfl (hC _ rfl) (by refine rl (Zab haw) ?_;exact h) (by exact (show 7≤100 by decide)) (nx _ _ ?_)
  refine w_st fun K nx=>?_
  dsimp only [Zam,Zai]
  refine st_a rfl (hC _ rfl) Zac (by exact (show 7≤100 by decide)) (nx _ _ ?_)
  have kb0:KB (fun _=>True) o (fun y=>if y=w then some (.inside j) else o y) H' (Mine.up H' w (.dict 0 [])):=fun y r v _ hr hv _=>by
   have:y≠w:=fun e=>by rw [e,hw] at hv;contradiction
   exact ⟨(if_neg this).trans hr,by refine rl (Zab this) ?_;exact hv⟩
  have ib1:=ib'.congr kb0
  generalize ho:(fun y=>if y=w then some (Role.inside j) else o y)=o' at kb0 ib1
  have hoa:o' a=some (.pact j):=by refine rl ho.symm ?_;exact (if_neg haw).trans h0
  have how:o' w=some (.inside j):=by refine rl ho.symm ?_;exact if_pos rfl
  have kb1:∀ {X:Zaa} {y:AObj},KB (fun r=>r≠.pact j∧r≠.inside j) o' o' X (Mine.up X a y):=Zjc fun r hr=>by rw [hoa] at hr;obtain rfl:=Option.some.inj hr;exact fun z=>z.1 rfl
  have kbd:∀ {X:Zaa} {y:AObj},KB (fun r=>r = .data) o' o' X (Mine.up X a y):=Zjc fun r hr=>by rw [hoa] at hr;cases hr;exact fun z=>by cases z
  have kb0':KB (fun r=>r = .data) o o' H' (Mine.up H' w (.dict 0 [])):=fun y r v _ hr hv hb=>kb0 y r v trivial hr hv hb
  have ip:IsPact o' (Mine.up (Mine.up (Mine.up H' w (.dict 0 [])) a (.inst "Pact" (putA [("name",.str x.name),("parts",.ref pa),("gains",.ref ga),("needs",.ref ne),("last",.int x.last),("state",.str x.state.str),("inside",.ref ins)] "inside" (.ref w)))) a (.inst "Pact" (putA (putA [("name",.str x.name),("parts",.ref pa),("gains",.ref ga),("needs",.ref ne),("last",.int x.last),("state",.str x.state.str),("inside",.ref ins)] "inside" (.ref w)) "state" (.str (Str.ofString "fallen"))))) j a { x with inside:=[],state:=.fln }:=by
   refine ⟨hoa,pa,ga,ne,w,0,Zac,((h1.congr kb0' rfl).congr kbd rfl).congr kbd rfl,((h2.congr kb0' rfl).congr kbd rfl).congr kbd rfl,?_,?_,how,?_⟩
   ·exact (kb0' ne _ _ rfl h3 h4 rfl).1
   ·have:=kb0' ne _ _ rfl h3 h4 rfl
    have hna:ne≠a:=Zcn this.1 hoa (by intro z;contradiction)
    refine rl (Zab hna) (rl (Zab hna) ?_);exact this.2
   ·refine rl (Zab haw.symm) (rl (Zab haw.symm) (rl Zac ?_));rfl
  refine w_st fun K nx=>?_
  dsimp only [Zbh]
  refine Zi9 hA ip rfl ?_
  have ib2:=ib1.setPact hj' ha (fun y r v hr ho hv hb=>kb1 y r v hr ho (kb1 y r v hr ho hv hb).2 hb) ip rfl
  rw [hp] at ib2
  refine q o' _ ib2 (fr'.trans ⟨fun y v hy ho'=>?_,fun y h=>Zdn (Zdn (Zdn h))⟩)
  have hyw:y≠w:=fun e=>by rw [e,hw] at hy;contradiction
  have hya:y≠a:=fun e=>by rw [e,h0] at ho';contradiction
  exact ⟨by refine rl (Zab hya) (rl (Zab hya) (rl (Zab hyw) ?_));exact hy,by refine rl ho.symm ?_;exact (if_neg hyw).trans ho'⟩
 ·rw [List.getElem?_map,Option.map_eq_some_iff] at hy
  obtain ⟨t,ht,rfl⟩:=hy
  obtain ⟨e,he,htd,htt⟩:=Zd1 hl ht
  have htt':H' t=some (.tuple [.str e.1,.int e.2]):=by refine rl (kd' t htd) ?_;exact htt
  refine ⟨show 2<3 by decide,?_⟩
  refine w_st fun K nx=>?_
  have hsplit:x.parts.take (m+1)=x.parts.take m++[e]:=by refine rl List.take_add_one (rl he ?_);rfl
  refine Zmu (no:=false) (k:=e.1) hA ib' hj' ha (ib'.pact hj' ha) rfl (fun Q' h=>Zi8 htt' h) ?_
  by_cases hi:e.1∈x.inside
  ·refine rl (decide_eq_true hi) ?_
   refine w_st fun K2 nx2=>?_
   dsimp only [Zar]
   refine Zbi hM (by decide) (by decide) ib' rfl ?_
   refine Eq.mpr (Zae) (Eq.mpr (Zat) ?_)
   refine Zi8 htt' ?_
   refine rl Zae (rl Zat ?_)
   refine Zsg htt' ?_
   have hem:e∈x.parts:=List.mem_of_getElem? he
   refine Zjg G hU2 hA ib' ⟨by refine rl (sm.fl ..) ?_;exact ok.sz.1,by refine rl (sm.al ..) ?_;exact ok.sz.2⟩ (by refine rl (sm.fh ..) ?_;exact (able e hem).1) (by refine rl (sm.ah ..) ?_;exact (able e hem).2) fun H2 ib2 fr2 kd2=>nx2 _ _ (nx _ _ (hI _ _ _ ⟨⟨_,rfl⟩,?_,fr'.trans fr2,kd'.trans kd2⟩))
   refine rl hsplit (rl Zet (rl (if_pos hi) ?_));exact ib2
  ·refine rl (decide_eq_false hi) ?_
   refine nx _ _ (hI _ _ _ ⟨⟨_,rfl⟩,?_,fr',kd'⟩)
   refine rl hsplit (rl Zet (rl (if_neg hi) ?_));exact ib'
end
end Mine
end
section
namespace Mine
noncomputable def fAt (g:Pc→Bool):List Pc→Option (Nat×Pc)
 | []=>none
 | q::r=>if g q then some (0,q) else (fAt g r).map fun e=>(e.1+1,e.2)
theorem Zqr {g:Pc→Bool}:∀ {ps:List Pc} {m:Nat} {x:Pc},(∀ i y,i<m→ps[i]? = some y→g y=false)→ps[m]? = some x→g x=true→fAt g ps=some (m,x)
 | q::r,0,x,_,h,hg=>by obtain rfl:=Option.some.inj h;unfold fAt;exact rl (if_pos hg) rfl
 | q::r,m+1,x,hi,h,hg=>by
  unfold fAt
  refine rl (if_neg (by rw [hi 0 q (Nat.succ_pos m) rfl];decide)) (rl (Zqr (ps:=r) (m:=m) (fun i y hm hy=>hi (i+1) y (Nat.succ_lt_succ hm) hy) h hg) ?_);rfl
 | [],_,_,_,h,_=>by contradiction
theorem Zm3 {g:Pc→Bool}:∀ {ps:List Pc},(∀ (i:Nat) y,ps[i]? = some y→g y=false)→fAt g ps=none
 | [],_=>rfl
 | q::r,h=>by
  unfold fAt
  refine rl (if_neg (by rw [h 0 q rfl];decide)) (rl (Zm3 (ps:=r) fun i y hy=>h (i+1) y hy) ?_);rfl
theorem Zqs {g:Pc→Bool} {ps:List Pc} {m:Nat} {x:Pc} (h:fAt g ps=some (m,x)):ps[m]? = some x∧g x=true:=by
 induction ps generalizing m with
 | nil=>cases h
 | cons q r ih =>
  unfold fAt at h
  by_cases hg:g q=true
  ·rw [if_pos hg] at h;cases h;exact ⟨rfl,hg⟩
  ·rw [if_neg hg] at h
   obtain ⟨⟨m',x'⟩,h1,h2⟩:=Option.map_eq_some_iff.mp h
   cases h2
   exact ih h1
noncomputable def Zcc (B:Bk) (k:Str):Bool:=match pAt B.pacts k with
 | some e=>e.2.state==.fln
 | none=>false
noncomputable def Zjl (B:Bk) (x:Pc):Bool:=x.state==.opn&&x.needs.any (Zcc B)
noncomputable def Zdq (B:Bk):Option (Nat×Pc):=fAt (Zjl B) B.pacts
noncomputable def Zcg:Nat→Bk→List Str→Bk×List Str
 | 0,B,l=>(B,l)
 | n+1,B,l=>match Zdq B with
  | none=>(B,l)
  | some e=>Zcg n (Zd2 B e.1 e.2) (l++[e.2.name])
noncomputable def Zsk (B:Bk):Nat:=B.pacts.countP fun q=>q.state==.opn
theorem Zoe {g:Pc→Bool} {ps:List Pc} {j:Nat} {x x':Pc} (h:ps[j]? = some x) (h1:g x=true) (h2:g x'=false):(ps.set j x').countP g+1=ps.countP g:=by
 induction ps generalizing j with
 | nil=>cases h
 | cons q r ih =>
  cases j with
  | zero=>obtain rfl:=Option.some.inj h;exact rl List.set_cons_zero (rl (List.countP_cons_of_neg (by rw [h2];exact Bool.false_ne_true)) (rl (List.countP_cons_of_pos h1) rfl))
  | succ j=>exact rl (List.set_cons_succ ..) (rl (List.countP_cons ..) (rl (List.countP_cons ..) (rl (Nat.add_right_comm ..) (rl (ih h ..) rfl))))
theorem Znp {B:Bk} {j:Nat} {x:Pc} (h:B.pacts[j]? = some x) (ho:(x.state==.opn)=true):Zsk (Zd2 B j x)+1=Zsk B:=Zoe h ho rfl
section
variable {o:Addr→Option Role} {H:Zaa} {b f s p:Addr} {as:List Addr} {B:Bk}
theorem Zhv:∀ {i:Nat} {as:List Addr} {ps:List Pc},pactsAt o H i as ps→(dP ps as).map (·.2)=as.map AV.ref∧as.length=ps.length
 | _,[],[],_=>⟨rfl,rfl⟩
 | i,a::as,q::qs,h=>by
  obtain ⟨h1,h2⟩:=Zhv h.2
  exact ⟨by rw [dP,List.map_cons,h1];rfl,congrArg Nat.succ h2⟩
 | _,[],_::_,h=>h.elim
 | _,_::_,[],h=>h.elim
theorem IsBook.upN (ib:IsBook o H b f s p as B) {z:Addr} (hz:o z=none) (y:AObj):IsBook o (up H z y) b f s p as B :=
 ib.congr fun a r v _ hr hv _=>⟨hr,by refine rl (Zab (fun e=>by rw [e,hz] at hr;contradiction)) ?_;exact hv⟩
end
section
variable {c:Cx} {P:Pg} (G:Gd c P) (U:HasP P) {n:Nat} {md:Bool} {Q:AV→Zaa→Prop} {E:String→Zaa→Prop} {H:Zaa} {o:Addr→Option Role} {b f s p a:Addr} {as:List Addr} {B:Bk} {j:Nat} {x:Pc}
theorem Zjt {g:Gx} {V:VV} {i:Nat} (hP:g.c.P.attrs=BK.attrs) (hmd:g.md=true) (ib:IsBook o H b f s p as B) (hl:B.pacts.length≤100) (hV:V[i]? = some (some (.ref b)))
  (q:∀ z o' H',H z=none→o' z=none→H' z=some (.list (as.map .ref))→IsBook o' H' b f s p as B→Fr1 o H o' H'→Q (.ref z) H'):wpX g (.prim .list [.bm (.attr (.var i) "pacts") .values []]) V Q E H:=by
 obtain ⟨ep,hp⟩:=ib.hp
 obtain ⟨e1,e2⟩:=Zhv ib.ps
 have e3:(dP B.pacts as).length=as.length:=by have:=congrArg List.length e1;simpa using this
 dsimp only [Zal,Zae,x_bm]
 refine Zcr hP ib hV ⟨?_,?_⟩
 ·show match H p with | some (.list _)=>_ | some (.dict _ _)=>_ | _=>False
  refine rl hp ?_;exact .inl rfl
 (dsimp only [Zah,Zvp];refine rl hp ?_)
 intro z1 hz1
 have hpz:p≠z1:=fun e=>by rw [e,hz1] at hp;contradiction
 obtain ⟨ib1,f1⟩:=ib.fresh hz1 (.vals p)
 (dsimp only [Zah,Zdt];refine rl Zac ?_)
 show match up H z1 (.vals p) p with | some (.dict _ _)=>_ | _=>False
 refine rl (Zab hpz) (rl hp ?_)
 refine ⟨hmd,by refine rl e3 (rl e2 ?_);exact Nat.le_trans hl (by decide),fun z2 hz2=>?_⟩
 obtain ⟨ib2,f2⟩:=ib1.fresh hz2 (.list ((dP B.pacts as).map (·.2)))
 have hz0:H z2=none:=by
  have hne:z2≠z1:=fun e=>by rw [e,Zac] at hz2;contradiction
  rw [Zab hne] at hz2;exact hz2
 exact q z2 _ _ hz0 (if_pos rfl) (by exact rl Zac (rl e1 rfl)) ib2 (f1.trans f2)
theorem Zj8 {g:Gx} {V:VV} {e:X} (hP:g.c.P.attrs=BK.attrs) (ip:IsPact o H j a x) (he:∀ Q':AV→Zaa→Prop,Q' (.ref a) H→wpX g e V Q' E H) (q:Q (.str x.state.str) H):wpX g (.attr e "state") V Q E H:=by
 obtain ⟨pa,ga,ne,ins,ep,h,_⟩:=ip.at_
 refine he _ ?_
 show match H a with | some (.inst _ _)=>_ | some (.book _)=>_ | _=>False
 refine rl h ?_;exact ⟨by refine rl hP ?_;rfl,q⟩
include G U
theorem Zef (hU:P.fns.lookup "Book.first_dragged" = some BK.f_Book_first_dragged) (ib:IsBook o H b f s p as B) (ok:BkOK B)
  (q:∀ o' H',IsBook o' H' b f s p as B→Fr1 o H o' H'→match Zdq B with | some e=>∀ a,as[e.1]? = some a→Q (.ref a) H' | none=>Q .none H'):CallOK c (n+1) true "Book.first_dragged" [.ref b] Q E H:=by
 refine G.call (F:=BK.f_Book_first_dragged) hU rfl ?_
 have hA:c.P.attrs=BK.attrs:=by rw [G.hP,U.a.attrs]
 refine w_st fun K nx=>?_
 refine ⟨rfl,?_⟩
 refine Zjt hA rfl ib ok.len rfl fun z o' H1 _ hzo hz1 ib1 f1=>?_
 have q:=q o' H1 ib1 f1
 obtain ⟨_,e2⟩:=Zhv ib1.ps
 refine Ze3 (xs:=as.map .ref) (by simp only [Zap,hz1]) (fun m V' H'=>H'=H1∧(∃ p1 p2,V'=[some (.ref b),p1,p2])∧∀ i y,i<m→B.pacts[i]? = some y→Zjl B y=false) ⟨rfl,⟨_,_,rfl⟩,fun i y h=>absurd h (Nat.not_lt_zero i)⟩ ?_
 rintro I hI m V' H' ⟨rfl,⟨p1,p2,rfl⟩,hm⟩
 refine ⟨rfl,fun hlen=>?_,fun y hy=>?_⟩
 ·rw [List.length_map,e2] at hlen
  have:Zdq B=none:=Zm3 fun i y hy=>hm i y (by rw [hlen];exact (List.getElem?_eq_some_iff.mp hy).1) hy
  rw [this] at q
  exact nx _ _ q
 rw [List.getElem?_map,Option.map_eq_some_iff] at hy
 obtain ⟨a,ha,rfl⟩:=hy
 obtain ⟨x,hx⟩:∃ x,B.pacts[m]? = some x:=⟨B.pacts[m]'(by rw [← e2];exact (List.getElem?_eq_some_iff.mp ha).1),List.getElem?_eq_getElem _⟩
 have ip:=ib1.pact hx ha
 refine ⟨show 1<3 by decide,?_⟩
 refine w_st fun K2 nx2=>?_
 show wpS _ _ _ _ _ [some (.ref b),some (.ref a),p2] _
 dsimp only [Zay,Zan]
 refine Zgu hA ip rfl ?_
 (dsimp only [Zai,Zdc,Zag];rw [Zi2])
 have next:Zjl B x=false→I (m+1) [some (.ref b),some (.ref a),p2] H':=fun h=>hI _ _ _ ⟨rfl,⟨_,_,rfl⟩,fun i y hi hy=>by
  rcases Nat.lt_succ_iff_lt_or_eq.mp hi with h' | h'
  ·exact hm i y h' hy
  ·subst h';rw [hx] at hy;obtain rfl:=Option.some.inj hy;exact h⟩
 cases hs:x.state==Sta.opn with
 | false=>exact nx2 _ _ (next (by unfold Zjl;rw [hs];rfl))
 | true =>
 refine w_st fun K3 nx3=>?_
 refine ⟨rfl,?_⟩
 refine Zmj hA ip rfl fun zn _ hzn=>?_
 refine Ze3 (xs:=txs x.needs) (by simp only [Zap,hzn]) (fun i V' H2=>H2=H'∧(∃ p2,V'=[some (.ref b),some (.ref a),p2])∧∀ i' k,i'<i→x.needs[i']? = some k→Zcc B k=false) ⟨rfl,⟨_,rfl⟩,fun i y h=>absurd h (Nat.not_lt_zero i)⟩ ?_
 rintro J hJ i V' H2 ⟨rfl,⟨p3,rfl⟩,hi⟩
 refine ⟨rfl,fun hlen=>?_,fun y hy=>?_⟩
 ·rw [Zaj] at hlen
  refine nx3 _ _ (nx2 _ _ ?_)
  refine hI _ _ _ ⟨rfl,⟨_,_,rfl⟩,fun i' y hi' hy=>?_⟩
  rcases Nat.lt_succ_iff_lt_or_eq.mp hi' with h' | h'
  ·exact hm i' y h' hy
  ·subst h';rw [hx] at hy;obtain rfl:=Option.some.inj hy
   unfold Zjl;rw [hs,Bool.true_and,List.any_eq_false]
   intro k hk
   obtain ⟨i2,h2,h3⟩:=List.mem_iff_getElem.mp hk
   rw [hi i2 k (by rw [hlen];exact h2) (by rw [List.getElem?_eq_getElem h2,h3])];decide
 obtain ⟨k,rfl,hk⟩:=Zix hy
 refine ⟨show 2<3 by decide,?_⟩
 refine w_st fun K4 nx4=>?_
 show wpS _ _ _ _ _ [some (.ref b),some (.ref a),some (.str k)] _
 have nextJ:Zcc B k=false→J (i+1) [some (.ref b),some (.ref a),some (.str k)] H2:=fun h=>hJ _ _ _ ⟨rfl,⟨_,rfl⟩,fun i' k' hi' hk'=>by
  rcases Nat.lt_succ_iff_lt_or_eq.mp hi' with h' | h'
  ·exact hi i' k' h' hk'
  ·subst h';rw [hk] at hk';obtain rfl:=Option.some.inj hk';exact h⟩
 dsimp only [Zay,x_ao,Zav,Zan,Zad]
 refine Zcr hA ib1 rfl ?_
 dsimp only [c_in]
 refine Zgz ib1 ?_
 cases e:pAt B.pacts k with
 | none=>exact nx4 _ _ (nextJ (by unfold Zcc;rw [e]))
 | some w =>
 dsimp only [Za7,Zan]
 obtain ⟨a',ha',ip'⟩:=Zcw ib1.ps (Zbb (j:=w.1) (q:=w.2) e).1
 rw [Nat.zero_add] at ip'
 refine Zj8 hA ip' (fun Q' h=>?_) ?_
 ·dsimp only [Zat]
  refine Zcr hA ib1 rfl ?_
  exact Zfl ib1 (j:=w.1) (x:=w.2) e fun a'' h'' _=>by rw [ha'] at h'';obtain rfl:=Option.some.inj h'';exact h
 dsimp only [Zai]
 (dsimp only [Zdc,Zag];rw [Zov])
 have hfb:Zcc B k=(w.2.state==.fln):=by unfold Zcc;rw [e]
 cases hw:w.2.state==Sta.fln with
 | false=>exact nx4 _ _ (nextJ (hfb.trans hw))
 | true =>
  have hd:Zjl B x=true:=by
   unfold Zjl;rw [hs,Bool.true_and,List.any_eq_true]
   exact ⟨k,List.mem_of_getElem? hk,hfb.trans hw⟩
  have:Zdq B=some (m,x):=Zqr hm hx hd
  rw [this] at q
  exact q a ha
end
end Mine
end
section
namespace Mine
theorem Zgm {n:Nat} {B:Bk} {l:List Str} (h:Zdq B=none):Zcg n B l=(B,l):=by
 cases n with
 | zero=>rfl
 | succ n=>unfold Zcg;exact rl h rfl
theorem Zgl {n:Nat} {B:Bk} {l:List Str} {e:Nat×Pc} (h:Zdq B=some e):Zcg (n+1) B l=Zcg n (Zd2 B e.1 e.2) (l++[e.2.name]):=by
 conv=>lhs;unfold Zcg
 exact rl h rfl
theorem Ztf {B:Bk} {j:Nat} {x:Pc}:(Zd2 B j x).pacts.length=B.pacts.length:=List.length_set
theorem Zsj {B:Bk}:Zsk B≤B.pacts.length:=List.countP_le_length
section
variable {c:Cx} {P:Pg} (G:Gd c P) (U:HasP P) {n:Nat} {md:Bool} {Q:AV→Zaa→Prop} {E:String→Zaa→Prop} {H:Zaa} {o:Addr→Option Role} {b f s p a:Addr} {as:List Addr} {B:Bk} {j:Nat} {x:Pc}
inductive Zza (o:Addr→Option Role) (H:Zaa) (b f s p:Addr) (as:List Addr) (R:Bk×List Str) (l0:Nat) (v1:Option AV) (z:Addr) (m:Nat) (V':VV) (H':Zaa):Prop
 | mk (o':Addr→Option Role) (B':Bk) (l:List Str) (v:AV) (hV:V'=[some (.ref b),v1,some (.ref z),some v]) (ib:IsBook o' H' b f s p as B') (ok:BkOK B') (fr:Fr1 o H o' H') (hz:H' z=some (.list (txs l))) (ho:o' z=none) (hl:l.length+m≤l0) (hm:Zsk B'≤m) (hR:Zcg m B' l=R)
   (hv:match Zdq B' with | some e=>∃ a,as[e.1]? = some a∧v = .ref a | none=>v = .none):Zza o H b f s p as R l0 v1 z m V' H'
include G U
set_option tactic.hygienic true in
theorem Zob {nl:Addr} {l:List Str} (hU:P.fns.lookup "Book.dragged" = some BK.f_Book_dragged) (hU1:P.fns.lookup "Book.first_dragged" = some BK.f_Book_first_dragged) (hU2:P.fns.lookup "Book.fell" = some BK.f_Book_fell) (hU3:P.fns.lookup "Book.given_back" = some BK.f_Book_given_back)
  (ib:IsBook o H b f s p as B) (ok:BkOK B) (hn:H nl=some (.list (txs l))) (hno:o nl=none) (hl:l.length≤200)
  (q:∀ z o' H',H z=none→o' z=none→H' z=some (.list (txs (Zcg B.pacts.length B l).2))→IsBook o' H' b f s p as (Zcg B.pacts.length B l).1→Fr1 o H o' H'→Q (.ref z) H'):CallOK c (n+3) true "Book.dragged" [.ref b,.ref nl] Q E H:=by
 refine G.call (F:=BK.f_Book_dragged) hU rfl ?_
 have hM:c.P.meths=BK.meths:=by exact rl G.hP (rl U.a.meths rfl)
 show wpSs _ _ _ _ _ [some (.ref b),some (.ref nl),none,none] _
 refine w_st fun K nx=>?_
 dsimp [v_0,Zai,Zad,Zau,Zbq,Zba,x_ao,Zbp,Zan,Za2,Zat,Zas,Za1,Zao,Zal,x_bm,Zbn,Zaz,Zbj,Zaq,Zah,Zae,Za7,Zav,Zb9,Zb0,Zb1,Zbs,tv,wtg,Zct,Zdm,Ze6,Zcl,Zcq,Zfg,Zdr,c_lt,c_le,c_gt,c_ge,c_eq,c_ne,Zdc,Ze5,c_in,Zd5,Zag,Zfk,Zdo,Zaw,Zeg,Zay,Zbh,Zam,Zar,Za4]
 refine Zja hn (by exact Nat.le_trans (by assumption) (by decide)) fun z hz=>⟨by decide,nx _ _ ?_⟩
 have t71:=ib.fresh hz (.list (txs l))
 have ib1:=t71.1
 have f1:=t71.2
 have hz1:up H z (.list (txs l)) z=some (.list (txs l)):=Zac
 have hzo:(fun a=>if a=z then none else o a) z=(none:Option Role):=if_pos rfl
 generalize (fun a=>if a=z then none else o a)=o1 at ib1 f1 hzo
 generalize up H z (.list (txs l))=H1 at ib1 f1 hz1
 refine w_st fun K nx=>?_
 dsimp only [Zam]
 refine Zbi hM (by decide) (by decide) ib1 rfl ?_
 refine Zef G U hU1 ib1 ok fun o2 H2 ib2 f2=>?_
 have t72:=f2.old _ _ hz1 hzo
 have hz2:=t72.1
 have hzo2:=t72.2
 have key:∀ v,(match Zdq B with | some e=>∃ a,as[e.1]? = some a∧v = .ref a | none=>v = .none)→3<4∧K [some (.ref b),some (.ref nl),some (.ref z),some v] H2:=fun v hv=>by
  refine ⟨by decide,nx _ _ ?_⟩
  refine w_st fun K nx=>?_
  dsimp only [Zbv]
  refine ⟨rfl,Zza o H b f s p as (Zcg B.pacts.length B l) (l.length+B.pacts.length) (some (.ref nl)) z,⟨_,o2,B,l,v,rfl,ib2,ok,f1.trans f2,hz2,hzo2,Nat.le_refl _,Zsj,rfl,hv⟩,?_⟩
  rintro m V' H' ⟨o',B',l',v',rfl,ib',ok',fr',hz',ho',hl',hm',hR',hv'⟩
  dsimp only [Zai]
  cases e:Zdq B' with
  | none =>
   rw [e] at hv'
   subst hv'
   rw [Zgm e] at hR'
   refine nx _ _ ?_
   have q:=q z o' H' hz ho'
   rw [← hR'] at q
   exact q hz' ib' fr'
  | some w =>
   rw [e] at hv'
   obtain ⟨a,ha,rfl⟩:=hv'
   have t74:=Zqs (m:=w.1) (x:=w.2) e
   have hj:=t74.1
   have hd:=t74.2
   have hopn:(w.2.state==Sta.opn)=true:=(Bool.and_eq_true _ _▸(show (w.2.state==Sta.opn&&w.2.needs.any (Zcc B'))=true from hd)).1
   have hop:=Znp hj hopn
   obtain ⟨m,rfl⟩:∃ m',m=m'+1:=⟨m - 1,by lia⟩
   rw [Zgl e] at hR'
   refine w_st fun K2 nx2=>?_
   refine ⟨?_,?_⟩
   ·show match H' z with | some (.list _)=>_ | some (.dict _ _)=>_ | _=>False
    refine rl hz' ?_;exact .inl rfl
   dsimp only [Zae]
   refine Zbi hM (by decide) (by decide) ib' rfl ?_
   refine Zqq G U hU2 hU3 ib' ok' hj ha fun o3 H3 ib3 f3=>?_
   have t75:=f3.old _ _ hz' ho'
   have hz3:=t75.1
   have hzo3:=t75.2
   dsimp only [Zah]
   refine Zdp hz3 (by refine rl Zaj ?_;have:=ok.len;lia) (nx2 _ _ ?_)
   refine rl Zgr ?_
   have ib4:=ib3.upN hzo3 (.list (txs (l'++[w.2.name])))
   have fr4:Fr1 o H o3 (up H3 z (.list (txs (l'++[w.2.name])))):=⟨fun y v hy hyo=>by
    have:=(fr'.trans f3).old y v hy hyo
    exact ⟨by refine rl (Zab (fun e=>by rw [e,hz] at hy;contradiction)) ?_;exact this.1,this.2⟩,fun y h=>(fr'.trans f3).gr y (Zdn h)⟩
   refine w_st fun K3 nx3=>?_
   dsimp only [Zam]
   refine Zbi hM (by decide) (by decide) ib4 rfl ?_
   have ok4:=ok'.fell hj
   refine Zef G U hU1 ib4 ok4 fun o5 H5 ib5 f5=>?_
   have t76:=f5.old z _ Zac hzo3
   have hz5:=t76.1
   have hzo5:=t76.2
   have fin:∀ v,(match Zdq (Zd2 B' w.1 w.2) with | some e=>∃ a,as[e.1]? = some a∧v = .ref a | none=>v = .none)→3<4∧K3 [some (.ref b),some (.ref nl),some (.ref z),some v] H5:=fun v hv=>⟨by decide,nx3 _ _ ⟨m,Nat.lt_succ_self m,o5,Zd2 B' w.1 w.2,l'++[w.2.name],v,rfl,ib5,ok4,fr4.trans f5,hz5,hzo5,by refine rl List.length_append ?_;simp only [List.length_cons,List.length_nil];lia,by lia,hR',hv⟩⟩
   cases e5:Zdq (Zd2 B' w.1 w.2) with
   | none=>exact fin _ (by exact rl e5 rfl)
   | some w5=>exact fun a5 ha5=>fin _ (by refine rl e5 ?_;exact ⟨a5,ha5,rfl⟩)
 cases e:Zdq B with
 | none=>exact key _ (by exact rl e rfl)
 | some w=>exact fun a ha=>key _ (by refine rl e ?_;exact ⟨a,ha,rfl⟩)
noncomputable def offQ (B:Bk) (w:AV):Except String (Bk×List Str):=match Zbl B w with
 | none=>.error "NoPact"
 | some e=>if e.2.state = .opn then .ok (Zcg B.pacts.length (Zd2 B e.1 e.2) [e.2.name]) else .error "NotOpen"
theorem Zvk {w:AV} (hU0:P.fns.lookup "Book.call_off" = some BK.f_Book_call_off) (hU:P.fns.lookup "Book.dragged" = some BK.f_Book_dragged) (hU1:P.fns.lookup "Book.first_dragged" = some BK.f_Book_first_dragged) (hU2:P.fns.lookup "Book.fell" = some BK.f_Book_fell) (hU3:P.fns.lookup "Book.given_back" = some BK.f_Book_given_back)
  (ib:IsBook o H b f s p as B) (ok:BkOK B) (hw:Kn H w)
  (q:match offQ B w with | .ok r=>∀ z o' H',H z=none→o' z=none→H' z=some (.list (txs r.2))→IsBook o' H' b f s p as r.1→Fr1 o H o' H'→Q (.ref z) H' | .error cl=>E cl H):CallOK c (n+4) true "Book.call_off" [.ref b,w] Q E H:=by
 refine G.call (F:=BK.f_Book_call_off) hU0 rfl ?_
 have hM:c.P.meths=BK.meths:=by exact rl G.hP (rl U.a.meths rfl)
 refine w_st fun K nx=>?_
 dsimp only [Zbh]
 refine Zbi hM (by decide) (by decide) ib rfl ?_
 dsimp only [Zae,Zaz]
 refine Zbi hM (by decide) (by decide) ib rfl ?_
 dsimp only [Zae]
 refine Zbi hM (by decide) (by decide) ib rfl ?_
 refine Zeo G U ib hw ?_
 unfold offQ at q
 cases e:Zbl B w with
 | none=>rw [e] at q;exact q
 | some x =>
  rw [e] at q
  have hj:=Zce (j:=x.1) (x:=x.2) e
  show if x.2.state = .opn then _ else _
  by_cases ho:x.2.state = .opn
  ·refine Eq.mpr (if_pos ho) ?_
   dsimp only at q
   rw [if_pos ho] at q
   intro a ha ip
   refine Eq.mpr (Zah) ?_
   refine Zqq G U hU2 hU3 ib ok hj ha fun o1 H1 ib1 f1=>?_
   refine rl Zah ?_
   intro z hz
   have t77:=ib1.fresh hz (.list (txs [x.2.name]))
   have ib2:=t77.1
   have f2:=t77.2
   refine Zob G U (l:=[x.2.name]) hU hU1 hU2 hU3 ib2 (ok.fell hj) Zac (if_pos rfl) (by simp) fun z' o' H' h1 h2 h3 h4 h5=>?_
   rw [Ztf] at h3 h4
   exact q z' o' H' ((f1.trans f2).gr z' h1) h2 h3 h4 ((f1.trans f2).trans h5)
  ·refine Eq.mpr (if_neg ho) ?_
   dsimp only at q
   rw [if_neg ho] at q
   exact q
end
end Mine
end
section
namespace Mine
structure Kv (v:AV):Prop where
 nr:∀ a,v≠.ref a
 len:∀ s,v = .str s→s.length<2 ^ 62
theorem Kv.kn {v:AV} (h:Kv v) {H:Zaa}:Kn H v:=by
 refine ⟨?_,h.len⟩
 cases v with
 | ref a=>exact absurd rfl (h.nr a)
 | _=>exact ⟨_,rfl⟩
noncomputable def Zfq (B:Bk):List (AV×AV)→List (Str×Int)→Except String (List (Str×Int))
 | [],acc=>.ok acc
 | e::r,acc=>if Za6 B e.1 then (if Zax e.1∈acc.map (·.1) then .error "Twice" else if Zci e.2 then Zfq B r (acc++[(Zax e.1,Zgp e.2)]) else .error "NoAmount") else .error "NoPurse"
noncomputable def Zel (B:Bk) (l:List (AV×AV)):Except String (List (Str×Int)):=if 1≤l.length∧l.length≤8 then Zfq B l [] else .error "NoRow"
noncomputable def pairsG (o:Addr→Option Role) (H:Zaa):List Addr→List (AV×AV)→Prop
 | [],[]=>True
 | t::ts,e::l=>(o t=none∧H t=some (.tuple [e.1,e.2])∧Kv e.1∧Kv e.2)∧pairsG o H ts l
 | _,_=>False
noncomputable def pairsU (H0:Zaa) (o:Addr→Option Role) (H:Zaa):List Addr→List (Str×Int)→Prop
 | [],[]=>True
 | t::ts,e::l=>(H0 t=none∧o t=none∧H t=some (.tuple [.str e.1,.int e.2]))∧pairsU H0 o H ts l
 | _,_=>False
section
variable {o o':Addr→Option Role} {H H' H0:Zaa}
theorem Zic:∀ {ts:List Addr} {l:List (AV×AV)} {m:Nat} {t:Addr},pairsG o H ts l→ts[m]? = some t→∃ e,l[m]? = some e∧o t=none∧H t=some (.tuple [e.1,e.2])∧Kv e.1∧Kv e.2
 | _::_,e::_,0,_,h,z=>by obtain rfl:=Option.some.inj z;exact ⟨e,rfl,h.1⟩
 | _::ts,_::l,m+1,_,h,z=>Zic (m:=m) h.2 z
 | [],[],_,_,_,z=>by cases z
 | [],_::_,_,_,h,_=>h.elim
 | _::_,[],_,_,h,_=>h.elim
theorem Zib:∀ {ts:List Addr} {l:List (AV×AV)},pairsG o H ts l→ts.length=l.length
 | [],[],_=>rfl
 | _::_,_::_,h=>congrArg Nat.succ (Zib h.2)
 | [],_::_,h=>h.elim
 | _::_,[],h=>h.elim
theorem pairsU.keep (k:∀ t v,H0 t=none→o t=none→H t=some (.tuple v)→o' t=none∧H' t=some (.tuple v)):∀ {ts:List Addr} {l:List (Str×Int)},pairsU H0 o H ts l→pairsU H0 o' H' ts l
 | [],[],_=>trivial
 | t::_,_::_,h=>⟨⟨h.1.1,k t _ h.1.1 h.1.2.1 h.1.2.2⟩,pairsU.keep k h.2⟩
 | [],_::_,h=>h.elim
 | _::_,[],h=>h.elim
theorem pairsU.snoc {t:Addr} {e:Str×Int} (h0:H0 t=none∧o t=none∧H t=some (.tuple [.str e.1,.int e.2])):∀ {ts:List Addr} {l:List (Str×Int)},pairsU H0 o H ts l→pairsU H0 o H (ts++[t]) (l++[e])
 | [],[],_=>⟨h0,trivial⟩
 | _::_,_::_,h=>⟨h.1,pairsU.snoc h0 h.2⟩
 | [],_::_,h=>h.elim
 | _::_,[],h=>h.elim
theorem Zf4:∀ {ts:List Addr} {l:List (Str×Int)},pairsU H0 o H ts l→ts.length=l.length
 | [],[],_=>rfl
 | _::_,_::_,h=>congrArg Nat.succ (Zf4 h.2)
 | [],_::_,h=>h.elim
 | _::_,[],h=>h.elim
theorem Fr1.upF {z:Addr} {y:AObj} (fr:Fr1 o H o' H') (hz:H z=none):Fr1 o H o' (up H' z y) :=
 ⟨fun a v h k=>⟨by refine rl (Zab (fun e=>by rw [e,hz] at h;contradiction)) ?_;exact (fr.old a v h k).1,(fr.old a v h k).2⟩,fun a h=>fr.gr a (Zdn h)⟩
end
inductive Zy8 (B:Bk) (o:Addr→Option Role) (H:Zaa) (b f s p:Addr) (as:List Addr) (l:List (AV×AV)) (R:Except String (List (Str×Int))) (v1:Option AV) (z sd:Addr) (m:Nat) (V':VV) (H':Zaa):Prop
 | mk (o':Addr→Option Role) (acc:List (Str×Int)) (ts:List Addr) (ep:Nat) (pr:Option AV) (hV:V'=[some (.ref b),v1,some (.ref z),some (.ref sd),pr]) (ib:IsBook o' H' b f s p as B) (fr:Fr1 o H o' H') (hz:H' z=some (.list (ts.map .ref))) (hzo:o' z=none) (hs:H' sd=some (.dict ep ((acc.map (·.1)).map fun k=>(k,.bool true)))) (hso:o' sd=none)
   (pu:pairsU H o' H' ts acc) (hl:acc.length=m) (hR:Zfq B (l.drop m) acc=R):Zy8 B o H b f s p as l R v1 z sd m V' H'
section
variable {c:Cx} {P:Pg} (G:Gd c P) (U:HasP P) {n:Nat} {md:Bool} {Q:AV→Zaa→Prop} {E:String→Zaa→Prop} {H:Zaa} {o:Addr→Option Role} {b f s p a:Addr} {as:List Addr} {B:Bk} {j:Nat} {x:Pc}
theorem tup0 {H:Zaa} {Q:AV→Zaa→Prop} {t:Addr} {v w:AV} (h:H t=some (.tuple [v,w])) (q:Q v H):wsub (.ref t) (.int 0) Q H:=Ze9 h (by decide) rfl (by simp) q
theorem tup1 {H:Zaa} {Q:AV→Zaa→Prop} {t:Addr} {v w:AV} (h:H t=some (.tuple [v,w])) (q:Q w H):wsub (.ref t) (.int 1) Q H:=Ze9 h (by decide) rfl (by simp) q
include G U
set_option tactic.hygienic true in
theorem Zhe {pl:Addr} {ts:List Addr} {l:List (AV×AV)} (hU:P.fns.lookup "Book.pairs_of" = some BK.f_Book_pairs_of) (ib:IsBook o H b f s p as B) (hp:H pl=some (.list (ts.map .ref))) (hpo:o pl=none) (hg:pairsG o H ts l) (hll:l.length≤1000)
  (q:match Zel B l with | .ok r=>(∀ z ts o' H',H z=none→o' z=none→H' z=some (.list (ts.map .ref))→pairsU H o' H' ts r→IsBook o' H' b f s p as B→Fr1 o H o' H'→Q (.ref z) H') | .error cl=>∀ o' H',IsBook o' H' b f s p as B→Fr1 o H o' H'→E cl H'):CallOK c (n+3) true "Book.pairs_of" [.ref b,.ref pl] Q E H:=by
 refine G.call (F:=BK.f_Book_pairs_of) hU rfl ?_
 have hM:c.P.meths=BK.meths:=by exact rl G.hP (rl U.a.meths rfl)
 have hgl:c.P.consts.lookup "MOST" = some (.int 8):=by refine rl G.hP (rl U.a.consts ?_);rfl
 have hlen:=Zib hg
 show wpSs _ _ _ _ _ [some (.ref b),some (.ref pl),none,none,none] _
 unfold Zel at q
 refine w_st fun K nx=>?_
 dsimp only [Zay,Zba,Za2,Zai,Zal,Zae,Zad]
 show wpXs _ [] _ _ _ _
 (dsimp only [Zah,Zee];refine rl hp ?_)
 refine ⟨by refine rl (List.length_map ..) ?_;lia,?_⟩
 (refine rl (List.length_map ..) (rl (hlen ..) ?_);dsimp only [c_le,Zag])
 by_cases h1:1≤l.length
 case neg =>
  rw [if_neg (fun h=>h1 h.1)] at q
  refine rl (decide_eq_false (by lia)) ?_
  exact ⟨rfl,q o H ib .refl⟩
 (refine rl (decide_eq_true (by exact Int.ofNat_lt.mpr (by assumption))) ?_;refine Eq.mpr (if_pos rfl) ?_;dsimp only [Za1])
 refine rl hgl ?_
 dsimp only [c_le]
 by_cases h2:l.length≤8
 case neg =>
  rw [if_neg (fun h=>h2 h.2)] at q
  refine rl (decide_eq_false (by lia)) ?_
  exact ⟨rfl,q o H ib .refl⟩
 refine rl (decide_eq_true (by exact Int.ofNat_le.mpr (by assumption))) ?_
 rw [if_pos ⟨h1,h2⟩] at q
 refine nx _ _ ?_
 refine w_st fun K nx=>?_
 intro z hz
 refine ⟨show 2<5 by decide,nx _ _ ?_⟩
 obtain ⟨ib1,f1⟩:=ib.fresh hz (.list [])
 refine w_st fun K nx=>?_
 intro sd hsd
 refine ⟨show 3<5 by decide,nx _ _ ?_⟩
 obtain ⟨ib2,f2⟩:=ib1.fresh hsd (.dict 0 [])
 have hzs:z≠sd:=Zgo hsd
 have hsd0:H sd=none:=Zdn hsd
 refine w_st fun K nx=>?_
 dsimp only [Zb3,Zad]
 refine ⟨rfl,?_⟩
 show WFor _ _ (.ref pl) _ _
 have fr2:=f1.trans f2
 obtain ⟨hp2,hpo2⟩:=fr2.old _ _ hp hpo
 refine Ze3 (xs:=ts.map .ref) (by simp only [Zap,hp2]) (Zy8 B o H b f s p as l (Zfq B l []) (some (.ref pl)) z sd) ⟨_,[],[],0,none,rfl,ib2,fr2,by rw [Zab hzs,Zac];rfl,by rw [if_neg hzs,if_pos rfl],Zac,if_pos rfl,trivial,rfl,rfl⟩ ?_
 rintro I hI m V' H' ⟨o',acc,us,ep,pr,rfl,ib',fr',hz',hzo',hs',hso',pu,hlm,hR⟩
 refine ⟨by show H' pl=_;exact rl ((fr'.old _ _ hp hpo).1) (rl hp2 rfl),fun hm=>?_,fun y hy=>?_⟩
 ·rw [List.length_map,hlen] at hm
  rw [hm,List.drop_length] at hR
  rw [← hR] at q
  exact nx _ _ (q z us o' H' hz hzo' hz' pu ib' fr')
 rw [List.getElem?_map,Option.map_eq_some_iff] at hy
 obtain ⟨t,ht,rfl⟩:=hy
 obtain ⟨e,he,hto,htt,kv1,kv2⟩:=Zic hg ht
 obtain ⟨htt',_⟩:=fr'.old _ _ htt hto
 have hdrop:l.drop m=e::l.drop (m+1):=by
  obtain ⟨hlt,hee⟩:=List.getElem?_eq_some_iff.mp he
  refine rl hee.symm ?_;exact List.drop_eq_getElem_cons hlt
 rw [hdrop,Zfq] at hR
 refine ⟨show 4<5 by decide,?_⟩
 refine w_st fun K2 nx2=>?_
 show wpS _ _ _ _ _ [some (.ref b),some (.ref pl),some (.ref z),some (.ref sd),some (.ref t)] _
 dsimp only [Zar]
 refine Zbi hM (by decide) (by decide) ib' rfl ?_
 refine tup0 htt' ?_
 refine Zbw G U.a ib' kv1.kn ?_
 cases hpb:Za6 B e.1 with
 | false =>
  rw [hpb] at hR
  rw [← hR] at q
  exact q o' H' ib' fr'
 | true =>
 obtain ⟨k,hk⟩:∃ k,e.1 = .str k:=⟨_,(Zbd hpb).1⟩
 rw [hpb,if_pos rfl] at hR
 rw [hk] at htt' hR
 have hkk:Zax (.str k)=k:=rfl
 rw [hkk] at hR
 refine nx2 _ _ ?_
 refine w_st fun K2 nx2=>?_
 refine tup0 htt' ?_
 dsimp only [Zad]
 show wcmp .In (.str k) (.ref sd) _ _
 (dsimp only [c_in,Ze7];refine rl hs' ?_)
 show Zbm (.bool (Zbu ((acc.map (·.1)).map fun k=>(k,.bool true)) k).isSome) _ _
 (refine rl Zgy ?_;dsimp only [Zag])
 by_cases hin:k∈acc.map (·.1)
 ·rw [if_pos hin] at hR
  rw [← hR] at q
  refine rl (decide_eq_true hin) ?_
  exact ⟨rfl,q o' H' ib' fr'⟩
 rw [if_neg hin] at hR
 refine rl (decide_eq_false hin) ?_
 refine nx2 _ _ ?_
 refine w_st fun K2 nx2=>?_
 refine tup0 htt' ?_
 show match H' sd with | some (.dict _ _)=>_ | _=>False
 refine rl hs' ?_
 refine ⟨by refine rl (List.length_map ..) (rl (List.length_map ..) (rl (hlm ..) ?_));have:m<l.length:=(List.getElem?_eq_some_iff.mp he).1;exact Nat.le_trans (Nat.le_of_lt (Nat.lt_of_lt_of_le this hll)) (by decide),fun ep'=>nx2 _ _ ?_⟩
 refine rl (Zlf hin) ?_
 have ib3:=ib'.upN hso' (.dict ep' ((acc.map (·.1)++[k]).map fun k=>(k,.bool true)))
 have fr3:Fr1 o H o' (up H' sd (.dict ep' ((acc.map (·.1)++[k]).map fun k=>(k,.bool true)))):=fr'.upF hsd0
 have hz3:up H' sd (.dict ep' ((acc.map (·.1)++[k]).map fun k=>(k,.bool true))) z=some (.list (us.map .ref)):=by refine rl (Zab hzs) ?_;exact hz'
 have hs3:up H' sd (.dict ep' ((acc.map (·.1)++[k]).map fun k=>(k,.bool true))) sd=some (.dict ep' ((acc.map (·.1)++[k]).map fun k=>(k,.bool true))):=Zac
 have pu3:pairsU H o' (up H' sd (.dict ep' ((acc.map (·.1)++[k]).map fun k=>(k,.bool true)))) us acc:=pu.keep fun t v _ h1 h2=>⟨h1,by refine rl (Zab (fun e=>by rw [e,hs'] at h2;cases h2)) ?_;exact h2⟩
 generalize up H' sd (.dict ep' ((acc.map (·.1)++[k]).map fun k=>(k,.bool true)))=H3 at ib3 fr3 hz3 hs3 pu3
 obtain ⟨htt3,_⟩:=fr3.old _ _ htt hto
 rw [hk] at htt3
 refine w_st fun K2 nx2=>?_
 dsimp only [Zar,x_bm,Zad]
 refine ⟨?_,?_⟩
 ·show match H3 z with | some (.list _)=>_ | some (.dict _ _)=>_ | _=>False
  refine rl hz3 ?_;exact .inl rfl
 dsimp only [Zae,Zbj,Zat]
 refine tup0 htt3 ?_
 dsimp only [Zae,Zao,Zat]
 refine tup1 htt3 ?_
 refine Eq.mpr (Zah) ?_
 refine Zhx G U.a kv2.kn ?_
 cases hab:Zci e.2 with
 | false =>
  rw [hab] at hR
  rw [← hR] at q
  exact q o' H3 ib3 fr3
 | true =>
 obtain ⟨i,hi⟩:∃ i,e.2 = .int i:=⟨_,Zgd hab⟩
 rw [hab,if_pos rfl] at hR
 rw [hi] at hR ⊢
 refine rl (if_pos rfl) (rl Zah ?_)
 intro t4 ht4
 obtain ⟨ib4,f4⟩:=ib3.fresh ht4 (.tuple [.str k,.int i])
 have fr4:=fr3.trans f4
 obtain ⟨hz4,hzo4⟩:=f4.old _ _ hz3 hzo'
 obtain ⟨hs4,hso4⟩:=f4.old _ _ hs3 hso'
 have pu4:=pu3.keep (H0:=H) (H':=up H3 t4 (.tuple [.str k,.int i])) (o':=fun a=>if a=t4 then none else o' a) fun t v _ h1 h2=>⟨(f4.old _ _ h2 h1).2,(f4.old _ _ h2 h1).1⟩
 have pu5:=pu4.snoc (t:=t4) (e:=(k,i)) ⟨fr3.gr t4 ht4,if_pos rfl,Zac⟩
 dsimp only [Zah]
 refine Zdp hz4 (by refine rl (List.length_map ..) (rl (Zf4 pu ..) (rl (hlm ..) ?_));have:m<l.length:=(List.getElem?_eq_some_iff.mp he).1;lia) (nx2 _ _ ?_)
 refine hI _ _ _ ⟨_,acc++[(k,i)],us++[t4],ep',some (.ref t),rfl,ib4.upN hzo4 _,fr4.upF hz,by refine rl Zac (rl List.map_append ?_);rfl,hzo4,by refine rl (Zab hzs.symm) (rl hs4 (rl (List.map_append (f:=fun x:Str×Int=>x.1)) ?_));rfl,hso4,pu5.keep fun t v _ h1 h2=>⟨h1,by refine rl (Zab (fun e=>by rw [e,hz4] at h2;cases h2)) ?_;exact h2⟩,by refine rl List.length_append (rl hlm ?_);rfl,hR⟩
end
end Mine
end
section
namespace Mine
noncomputable def Zgi (B:Bk):List AV→List Str→Except String Unit
 | [],_=>.ok ()
 | v::r,seen=>if Zdu v then (if Zax v∈seen then .error "Twice" else if Zcc B (Zax v) then .error "Fallen" else Zgi B r (seen++[Zax v])) else .error "NoName"
noncomputable def Zfu (B:Bk) (k:Str) (l:List AV):Except String Unit:=if l.length≤8 then Zgi B l [k] else .error "NoRow"
theorem Zb5 {α:Type} {p:Prop} [Decidable p] {x:Except String α} {e:String} {r:α} (h:(if p then x else .error e) = .ok r):p∧x = .ok r:=by
 by_cases hp:p
 ·rw [if_pos hp] at h;exact ⟨hp,h⟩
 ·rw [if_neg hp] at h;contradiction
theorem Zer {α:Type} {p:Prop} [Decidable p] {x:Except String α} {e:String} {r:α} (h:(if p then .error e else x) = .ok r):¬ p∧x = .ok r:=by
 by_cases hp:p
 ·rw [if_pos hp] at h;contradiction
 ·rw [if_neg hp] at h;exact ⟨hp,h⟩
theorem Znw {B:Bk} {l:List AV} {seen:List Str} (h:Zgi B l seen = .ok ()):l=txs (l.map Zax):=by
 induction l generalizing seen with
 | nil=>rfl
 | cons v r ih =>
  obtain ⟨hn,h⟩:=Zb5 h
  have:=ih (Zer (Zer h).2).2
  rw [List.map_cons]
  show v::r = .str (Zax v)::txs (r.map Zax)
  exact rl (Eq.symm (Zd9 hn)) (rl this.symm rfl)
inductive Zy9 (B:Bk) (o:Addr→Option Role) (H:Zaa) (b f s p:Addr) (as:List Addr) (l:List AV) (R:Except String Unit) (v1 v2:Option AV) (sd:Addr) (m:Nat) (V':VV) (H':Zaa):Prop
 | mk (o':Addr→Option Role) (seen:List Str) (ep:Nat) (pr:Option AV) (hV:V'=[some (.ref b),v1,v2,some (.ref sd),pr]) (ib:IsBook o' H' b f s p as B) (fr:Fr1 o H o' H') (hs:H' sd=some (.dict ep (seen.map fun k=>(k,.bool true)))) (hso:o' sd=none) (hl:seen.length=m+1) (hR:Zgi B (l.drop m) seen=R):Zy9 B o H b f s p as l R v1 v2 sd m V' H'
section
variable {c:Cx} {P:Pg} (G:Gd c P) (U:HasP P) {n:Nat} {md:Bool} {Q:AV→Zaa→Prop} {E:String→Zaa→Prop} {H:Zaa} {o:Addr→Option Role} {b f s p a:Addr} {as:List Addr} {B:Bk} {j:Nat} {x:Pc}
include G U
set_option tactic.hygienic true in
theorem Zls {nl:Addr} {l:List AV} {kn:Str} (hU:P.fns.lookup "Book.needs_of" = some BK.f_Book_needs_of) (ib:IsBook o H b f s p as B) (hp:H nl=some (.list l)) (hpo:o nl=none) (hg:∀ v∈l,Kv v) (hll:l.length≤1000)
  (q:match Zfu B kn l with | .ok _=>(∀ z o' H',H z=none→o' z=none→H' z=some (.list l)→IsBook o' H' b f s p as B→Fr1 o H o' H'→Q (.ref z) H') | .error cl=>∀ o' H',IsBook o' H' b f s p as B→Fr1 o H o' H'→E cl H'):CallOK c (n+3) true "Book.needs_of" [.ref b,.str kn,.ref nl] Q E H:=by
 refine G.call (F:=BK.f_Book_needs_of) hU rfl ?_
 have hA:c.P.attrs=BK.attrs:=by exact rl G.hP (rl U.a.attrs rfl)
 have hgl:c.P.consts.lookup "MOST" = some (.int 8):=by refine rl G.hP (rl U.a.consts ?_);rfl
 unfold Zfu at q
 refine w_st fun K nx=>?_
 dsimp only [Zay,Zan,Zal,Zae,Zad]
 show wpXs _ [] _ _ _ _
 (dsimp only [Zah,Zee];refine rl hp ?_)
 refine ⟨by exact Nat.lt_of_le_of_lt (by assumption) (by decide),?_⟩
 dsimp only [Za1]
 show match c.P.consts.lookup "MOST" with | some v=>_ | none=>False
 refine rl hgl ?_
 show wcmp .Gt (.int l.length) (.int 8) _ _
 dsimp only [c_gt,Zag]
 by_cases h2:l.length≤8
 case neg =>
  rw [if_neg h2] at q
  refine rl (decide_eq_true (by omega)) ?_
  exact ⟨rfl,q o H ib .refl⟩
 refine rl (decide_eq_false (by omega)) ?_
 rw [if_pos h2] at q
 refine nx _ _ ?_
 refine w_st fun K nx=>?_
 intro sd ep0 hsd
 refine ⟨show 3<5 by decide,nx _ _ ?_⟩
 obtain ⟨ib2,fr2⟩:=ib.fresh hsd (.dict ep0 [(kn,.bool true)])
 refine w_st fun K nx=>?_
 dsimp only [Zb3,Zad]
 refine ⟨rfl,?_⟩
 show WFor _ _ (.ref nl) _ _
 obtain ⟨hp2,hpo2⟩:=fr2.old _ _ hp hpo
 refine Ze3 (xs:=l) (by simp only [Zap,hp2]) (Zy9 B o H b f s p as l (Zgi B l [kn]) (some (.str kn)) (some (.ref nl)) sd) ⟨_,[kn],ep0,none,rfl,ib2,fr2,Zac,if_pos rfl,rfl,rfl⟩ ?_
 rintro I hI m V' H' ⟨o',seen,ep,pr,rfl,ib',fr',hs',hso',hlm,hR⟩
 obtain ⟨hp',hpo'⟩:=fr'.old _ _ hp hpo
 refine ⟨by show H' nl=_;exact rl hp' (rl hp2 rfl),fun hm=>?_,fun v hv=>?_⟩
 ·rw [hm,List.drop_length] at hR
  rw [← hR] at q
  refine nx _ _ ?_
  refine w_st fun K nx=>?_
  dsimp only [Zbh,Zal,Zae,Zad]
  show wpXs _ [] _ _ _ _
  (dsimp only [Zah,Zdt];refine rl hp' ?_)
  refine ⟨Nat.le_trans hll (by decide),fun z hz=>?_⟩
  obtain ⟨ib3,f3⟩:=ib'.fresh hz (.list l)
  exact q z _ _ (fr'.gr z hz) (if_pos rfl) Zac ib3 (fr'.trans f3)
 have hdrop:l.drop m=v::l.drop (m+1):=by
  obtain ⟨hlt,hee⟩:=List.getElem?_eq_some_iff.mp hv
  refine rl hee.symm ?_;exact List.drop_eq_getElem_cons hlt
 have hmlt:m<l.length:=(List.getElem?_eq_some_iff.mp hv).1
 rw [hdrop,Zgi] at hR
 refine ⟨show 4<5 by decide,?_⟩
 refine w_st fun K2 nx2=>?_
 show wpS _ _ _ _ _ [some (.ref b),some (.str kn),some (.ref nl),some (.ref sd),some v] _
 refine Zlu G U.a (hg v (List.mem_of_getElem? hv)).kn ?_
 cases hn:Zdu v with
 | false =>
  rw [hn] at hR
  rw [← hR] at q
  exact q o' H' ib' fr'
 | true =>
 obtain ⟨k,rfl⟩:∃ k,v = .str k:=⟨_,Zd9 hn⟩
 rw [hn,if_pos rfl] at hR
 have hkk:Zax (.str k)=k:=rfl
 rw [hkk] at hR
 refine nx2 _ _ ?_
 refine w_st fun K2 nx2=>?_
 refine Eq.mpr (Zay) (Eq.mpr (Zan) (Eq.mpr (Zad) ?_))
 dsimp only [Zad]
 show wcmp .In (.str k) (.ref sd) _ _
 (dsimp only [c_in,Ze7];refine rl hs' ?_)
 show Zbm (.bool (Zbu (seen.map fun k=>(k,.bool true)) k).isSome) _ _
 (refine rl Zgy ?_;dsimp only [Zag])
 by_cases hin:k∈seen
 ·rw [if_pos hin] at hR
  rw [← hR] at q
  refine rl (decide_eq_true hin) ?_
  exact ⟨rfl,q o' H' ib' fr'⟩
 rw [if_neg hin] at hR
 refine rl (decide_eq_false hin) ?_
 refine nx2 _ _ ?_
 refine w_st fun K2 nx2=>?_
 refine Eq.mpr (Zam) (Eq.mpr (Zai) (Eq.mpr (tsub) (Eq.mpr (Zad) ?_)))
 show match H' sd with | some (.dict _ _)=>_ | _=>False
 refine rl hs' ?_
 refine ⟨by refine rl (List.length_map ..) (rl (hlm ..) ?_);exact Nat.le_trans (Nat.le_trans (Nat.succ_le_of_lt hmlt) hll) (by decide),fun ep'=>nx2 _ _ ?_⟩
 refine rl (Zlf hin) ?_
 have ib3:=ib'.upN hso' (.dict ep' ((seen++[k]).map fun k=>(k,.bool true)))
 have fr3:Fr1 o H o' (up H' sd (.dict ep' ((seen++[k]).map fun k=>(k,.bool true)))):=fr'.upF hsd
 have hs3:up H' sd (.dict ep' ((seen++[k]).map fun k=>(k,.bool true))) sd=some (.dict ep' ((seen++[k]).map fun k=>(k,.bool true))):=Zac
 generalize up H' sd (.dict ep' ((seen++[k]).map fun k=>(k,.bool true)))=H3 at ib3 fr3 hs3
 refine w_st fun K2 nx2=>?_
 dsimp only [Zay,x_ao,Zav,Zan,Zad]
 refine Zcr hA ib3 rfl ?_
 dsimp only [c_in]
 refine Zgz ib3 ?_
 have nextI:Zcc B k=false→I (m+1) [some (.ref b),some (.str kn),some (.ref nl),some (.ref sd),some (.str k)] H3:=fun h=>hI _ _ _ ⟨o',seen++[k],ep',_,rfl,ib3,fr3,hs3,hso',by refine rl List.length_append (rl hlm ?_);rfl,by rw [if_neg (by refine rl h ?_;decide)] at hR;exact hR⟩
 cases e:pAt B.pacts k with
 | none=>exact nx2 _ _ (nextI (by unfold Zcc;exact rl e rfl))
 | some w =>
 dsimp only [Za7,Zan]
 obtain ⟨a',ha',ip'⟩:=Zcw ib3.ps (Zbb (j:=w.1) (q:=w.2) e).1
 rw [Nat.zero_add] at ip'
 refine Zj8 hA ip' (fun Q' h=>?_) ?_
 ·dsimp only [Zat]
  refine Zcr hA ib3 rfl ?_
  exact Zfl ib3 (j:=w.1) (x:=w.2) e fun a'' h'' _=>by rw [ha'] at h'';obtain rfl:=Option.some.inj h'';exact h
 (dsimp only [Zai,Zdc,Zag];refine rl Zov ?_)
 have hfb:Zcc B k=(w.2.state==.fln):=by unfold Zcc;exact rl e rfl
 cases hw:w.2.state==Sta.fln with
 | false=>exact nx2 _ _ (nextI (hfb.trans hw))
 | true =>
  rw [if_pos (hfb.trans hw)] at hR
  rw [← hR] at q
  exact ⟨rfl,q o' H3 ib3 fr3⟩
omit U in
theorem Zse {k:Str} {pa ga ne:Addr} {i:Int} (hU:P.fns.lookup "Pact.__init__" = some BK.f_Pact___init__) (hA:c.P.attrs=BK.attrs) (h:H a=some (.inst "Pact" []))
  (q:∀ w H',H w=none→H' a=some (.inst "Pact" [("name",.str k),("parts",.ref pa),("gains",.ref ga),("needs",.ref ne),("last",.int i),("state",.str (Str.ofString "open")),("inside",.ref w)])→H' w=some (.dict 0 [])→(∀ y,y≠a→y≠w→H' y=H y)→Q .none H'):CallOK c (n+1) true "Pact.__init__" [.ref a,.str k,.ref pa,.ref ga,.ref ne,.int i] Q E H:=by
 refine G.call (F:=BK.f_Pact___init__) hU rfl ?_
 have hC:∀ n,BK.attrs.contains ("Pact",n)=true→c.P.attrs.contains ("Pact",n)=true:=fun n h=>by rw [hA];exact h
 refine w_st fun K nx=>?_
 dsimp only [Zam,Zad]
 refine st_a rfl (hC _ rfl) h (by exact (show 0≤100 by decide)) (nx _ _ ?_)
 refine w_st fun K nx=>?_
 dsimp only [Zam,Zad]
 refine st_a rfl (hC _ rfl) Zac (by exact (show 1≤100 by decide)) (nx _ _ ?_)
 refine w_st fun K nx=>?_
 dsimp only [Zam,Zad]
 refine st_a rfl (hC _ rfl) Zac (by exact (show 2≤100 by decide)) (nx _ _ ?_)
 refine w_st fun K nx=>?_
 dsimp only [Zam,Zad]
 refine st_a rfl (hC _ rfl) Zac (by exact (show 3≤100 by decide)) (nx _ _ ?_)
 refine w_st fun K nx=>?_
 dsimp only [Zam,Zad]
 refine st_a rfl (hC _ rfl) Zac (by exact (show 4≤100 by decide)) (nx _ _ ?_)
 refine w_st fun K nx=>?_
 dsimp only [Zam,Zai]
 refine st_a rfl (hC _ rfl) Zac (by exact (show 5≤100 by decide)) (nx _ _ ?_)
 refine w_st fun K nx=>?_
 intro w hw
 have haw:a≠w:=Zgo hw
 refine st_a rfl (hC _ rfl) (by exact rl (Zab haw) (rl Zac rfl)) (by exact (show 6≤100 by decide)) (nx _ _ ?_)
 refine q w _ (Zdn (Zdn (Zdn (Zdn (Zdn (Zdn hw)))))) Zac (by exact rl (Zab haw.symm) (rl Zac rfl)) fun y h1 h2=>?_
 exact rl (Zab h1) (rl (Zab h2) (rl (Zab h1) (rl (Zab h1) (rl (Zab h1) (rl (Zab h1) (rl (Zab h1) (rl (Zab h1) rfl)))))))
end
end Mine
end
section
namespace Mine
noncomputable def sumL (l:List (Str×Int)):Int:=(l.map (·.2)).sum
noncomputable def tqD (B:Bk) (v:AV) (nl:List AV) (last:AV) (ps gs:List (Str×Int)) (_:Unit):Except String Bk:=if Zjr last=true∧¬ Zgp last<B.day then .ok { B with pacts:=B.pacts++[⟨Zax v,ps,gs,nl.map Zax,Zgp last,.opn,[]⟩] } else .error "NoDay"
noncomputable def tqB (B:Bk) (v:AV) (nl:List AV) (last:AV) (ps gs:List (Str×Int)):Except String Bk:=if sumL ps≠sumL gs then .error "Uneven" else (Zfu B (Zax v) nl).bind (tqD B v nl last ps gs)
noncomputable def tqA (B:Bk) (v:AV) (gl:List (AV×AV)) (nl:List AV) (last:AV) (ps:List (Str×Int)):Except String Bk:=(Zel B gl).bind (tqB B v nl last ps)
noncomputable def Znb (B:Bk) (v:AV) (pl gl:List (AV×AV)) (nl:List AV) (last:AV):Except String Bk :=
 if Zdu v then (if (pAt B.pacts (Zax v)).isSome then .error "Taken" else (Zel B pl).bind (tqA B v gl nl last)) else .error "NoName"
theorem bnd {α β:Type} {x:Except String α} {f:α→Except String β} {r:β} (h:x.bind f = .ok r):∃ a,x = .ok a∧f a = .ok r:=by
 cases x with
 | error=>cases h
 | ok a=>exact ⟨a,rfl,h⟩
theorem Zrg {α β:Type} {x:Except String α} {f:α→Except String β} {a:α} (h:x = .ok a):x.bind f=f a:=by refine rl h ?_;rfl
noncomputable def snd2 (H:Zaa):AV→Option AV
 | .ref t=>(match H t with | some (.tuple [_,w])=>some w | _=>none)
 | _=>none
theorem Zmc {H:Zaa} {t:Addr} {u w:AV} (h:H t=some (.tuple [u,w])):snd2 H (.ref t)=some w:=by
 show (match H t with | some (.tuple [_,w])=>some w | _=>none)=_
 exact rl h rfl
section
variable {o o':Addr→Option Role} {H H' H0:Zaa}
theorem Fr1.ext (h:Ext H H'):Fr1 o H o H':=⟨fun a v e k=>⟨h a v e,k⟩,fun a e=>h.none e⟩
theorem IsBook.ext {b f s p:Addr} {as:List Addr} {B:Bk} (ib:IsBook o H b f s p as B) (h:Ext H H'):IsBook o H' b f s p as B:=ib.congr fun a r v _ hr hv _=>⟨hr,h a v hv⟩
theorem pairsU.ext {ts:List Addr} {l:List (Str×Int)} (h:pairsU H0 o H ts l) (hE:Ext H H'):pairsU H0 o H' ts l:=h.keep fun t v _ h1 h2=>⟨h1,hE _ _ h2⟩
theorem pairsG.fr (f:Fr1 o H o' H') {us:List Addr} {l:List (AV×AV)} (h:pairsG o H us l):pairsG o' H' us l:=by
 induction us generalizing l with
 | nil=>cases l with
  | nil=>trivial
  | cons=>exact h.elim
 | cons t r ih=>cases l with
  | nil=>exact h.elim
  | cons g gs=>exact ⟨⟨(f.old _ _ h.1.2.1 h.1.1).2,(f.old _ _ h.1.2.1 h.1.1).1,h.1.2.2⟩,ih h.2⟩
theorem pairsU.gr (g:∀ y,H' y=none→H y=none) {us:List Addr} {l:List (Str×Int)} (h:pairsU H' o H0 us l):pairsU H o H0 us l:=by
 induction us generalizing l with
 | nil=>cases l with
  | nil=>trivial
  | cons=>exact h.elim
 | cons t r ih=>cases l with
  | nil=>exact h.elim
  | cons e l=>exact ⟨⟨g _ h.1.1,h.1.2⟩,ih h.2⟩
theorem Zhf:∀ {ts:List Addr} {l:List (Str×Int)},pairsU H0 o H ts l→((ts.map AV.ref).filterMap (snd2 H))=(l.map (·.2)).map AV.int
 | [],[],_=>rfl
 | t::ts,e::l,h=>by
  rw [List.map_cons,List.filterMap_cons,List.map_cons,List.map_cons,← Zhf h.2]
  exact rl (Zmc h.1.2.2) rfl
 | [],_::_,h=>h.elim
 | _::_,[],h=>h.elim
theorem Zh9:∀ {ts:List Addr} {l:List (Str×Int)} {y:AV},pairsU H0 o H ts l→y∈ts.map AV.ref→∃ t k i,y = .ref t∧H t=some (.tuple [.str k,.int i])
 | t::ts,e::l,y,h,hy=>by
  rcases List.mem_cons.mp hy with rfl | hy
  ·exact ⟨t,_,_,rfl,h.1.2.2⟩
  ·exact Zh9 h.2 hy
 | [],[],_,_,hy=>by cases hy
 | [],_::_,_,h,_=>h.elim
 | _::_,[],_,h,_=>h.elim
theorem Zdi:∀ {ts:List Addr} {l:List (Str×Int)} {t:Addr},pairsU H0 o H ts l→t∈ts→H0 t=none∧o t=none∧∃ v,H t=some (.tuple v)
 | t::ts,e::l,y,h,hy=>by
  rcases List.mem_cons.mp hy with rfl | hy
  ·exact ⟨h.1.1,h.1.2.1,_,h.1.2.2⟩
  ·exact Zdi h.2 hy
 | [],[],_,_,hy=>by cases hy
 | [],_::_,_,h,_=>h.elim
 | _::_,[],_,h,_=>h.elim
theorem pairsU.own (hk:∀ t v,t∈ts→H t=some (.tuple v)→o' t=some .data∧H' t=some (.tuple v)) {l:List (Str×Int)} (h:pairsU H0 o H ts l):pairsAV o' H' ts l:=by
 induction ts generalizing l with
 | nil=>cases l with
  | nil=>trivial
  | cons=>exact h.elim
 | cons t ts ih=>cases l with
  | nil=>exact h.elim
  | cons e l =>
   have:=hk t _ List.mem_cons_self h.1.2.2
   exact ⟨this.1,this.2,ih (fun t v ht=>hk t v (List.mem_cons_of_mem _ ht)) h.2⟩
theorem Zhg:∀ {i:Nat} {as:List Addr} {ps:List Pc} {a:Addr} {x:Pc},pactsAt o H i as ps→IsPact o H (i+ps.length) a x→pactsAt o H i (as++[a]) (ps++[x])∧dP (ps++[x]) (as++[a])=dP ps as++[(x.name,.ref a)]
 | _,[],[],a,x,_,hx=>⟨⟨hx,trivial⟩,rfl⟩
 | i,a'::as,q::qs,a,x,h,hx=>by
  obtain ⟨h1,h2⟩:=Zhg (i:=i+1) (a:=a) (x:=x) h.2 (by refine rl (show i+1+qs.length=i+(q::qs).length by simp;lia) ?_;exact hx)
  exact ⟨⟨h.1,h1⟩,by show _::dP (qs++[x]) (as++[a])=_;refine rl h2 ?_;rfl⟩
 | _,[],_::_,_,_,h,_=>h.elim
 | _,_::_,[],_,_,h,_=>h.elim
end
section
variable {c:Cx} {P:Pg} (G:Gd c P) (U:HasP P) {n:Nat} {md:Bool} {Q:AV→Zaa→Prop} {E:String→Zaa→Prop} {H:Zaa} {o:Addr→Option Role} {b f s p a:Addr} {as:List Addr} {B:Bk} {j:Nat} {x:Pc}
theorem Zjx {g:Gx} {V:VV} {i:Nat} {z:Addr} {ts:List Addr} {l:List (Str×Int)} {H0:Zaa} (hmd:g.md=true) (hl9:V.length=9) (hV:V[i]? = some (some (.ref z))) (hz:H z=some (.list (ts.map .ref))) (hu:pairsU H0 o H ts l) (hl:l.length≤1000)
  (q:∀ H',Ext H H'→Q (.int (sumL l)) H'):wpX g (.prim .sum [.comp (.sub (.var 9) (.lit (.int 1))) 1 false (.var i) none]) V Q E H:=by
 (dsimp only [Zal,Zae,Zbf,Zad];refine rl hV ?_)
 refine ⟨hmd,?_⟩
 refine Zjs (xs:=ts.map .ref) (by simp only [Zap,hz]) (by refine rl (List.length_map ..) (rl (Zf4 hu ..) ?_);exact Nat.le_trans hl (by decide)) (snd2 H) (fun y hy H' hE nx hnx=>?_) fun a H' hE ha=>?_
 ·obtain ⟨t,k,w,rfl,ht⟩:=Zh9 hu hy
  (refine Eq.mpr (if_neg (by decide)) ?_;dsimp only [Zb1];refine Eq.mpr (if_pos rfl) ?_;dsimp only [Zat,Zad];refine rl (List.getElem?_append_right (by lia)) (rl hl9 ?_))
  refine tup1 (hE _ _ ht) ?_
  have:=hnx H' .refl
  rw [Zmc ht] at this
  exact this
 ·(dsimp only [Zah,Zgg];refine rl hmd (rl Zac ?_))
  refine ⟨rfl,l.map (·.2),Zhf hu,?_⟩
  exact q _ (hE.new ha)
theorem Znn {B:Bk} {l:List (AV×AV)} {acc r:List (Str×Int)} (h:Zfq B l acc = .ok r):r.length=acc.length+l.length:=by
 induction l generalizing acc with
 | nil=>cases h;rfl
 | cons e l ih =>
  have:=ih (Zb5 (Zer (Zb5 h).2).2).2
  rw [this,List.length_append,Nat.add_assoc]
  exact rl (Nat.add_comm 1 ..) rfl
set_option tactic.hygienic true in
theorem Zia {B:Bk} {l:List (AV×AV)} {r:List (Str×Int)} (h:Zel B l = .ok r):r.length≤1000:=by
 unfold Zel at h
 split at h
 ·rename_i hh
  refine rl (Znn h) ?_;simp;lia
 ·contradiction
theorem Zop {H0 H6:Zaa} {o0 o:Addr→Option Role} {H:Zaa} {b f s p a w za zb zn:Addr} {as ta tb:List Addr} {B:Bk} {k:Str} {ps gs:List (Str×Int)} {ns:List Str} {i:Int} (ib:IsBook o H b f s p as B) (fr:Fr1 o0 H0 o H) (nza:H0 za=none) (nzb:H0 zb=none) (nzn:H0 zn=none) (pa:pairsU H0 o H ta ps) (pb:pairsU H0 o H tb gs) (ha:H a=none) (hw:H w=none) (haw:a≠w)
  (hia:H6 a=some (.inst "Pact" [("name",.str k),("parts",.ref za),("gains",.ref zb),("needs",.ref zn),("last",.int i),("state",.str (Str.ofString "open")),("inside",.ref w)])) (hiw:H6 w=some (.dict 0 [])) (hold:∀ y v,H y=some v→H6 y=some v)
  (hza:H za=some (.list (ta.map .ref))) (hzao:o za=none) (hzb:H zb=some (.list (tb.map .ref))) (hzbo:o zb=none) (hzn:H zn=some (.list (txs ns))) (hzno:o zn=none) (ep:Nat) :
  ∃ o':Addr→Option Role,IsBook o' (up H6 p (.dict ep (dP B.pacts as++[(k,.ref a)]))) b f s p (as++[a]) { B with pacts:=B.pacts++[⟨k,ps,gs,ns,i,.opn,[]⟩] }∧Fr1 o0 H0 o' (up H6 p (.dict ep (dP B.pacts as++[(k,.ref a)]))):=by
 obtain ⟨e1,hf⟩:=ib.hf
 obtain ⟨e2,hs⟩:=ib.hs
 obtain ⟨e3,hp⟩:=ib.hp
 have na:∀ {y v},H y=some v→y≠a:=fun h e=>by rw [e,ha] at h;contradiction
 have nw:∀ {y v},H y=some v→y≠w:=fun h e=>by rw [e,hw] at h;contradiction
 have hd:∃ o':Addr→Option Role,o' a=some (.pact B.pacts.length)∧o' w=some (.inside B.pacts.length)∧(∀ y v,H y=some v→(y=za∨y=zb∨y=zn∨y∈ta∨y∈tb)→o' y=some .data)∧(∀ y v,H y=some v→¬ (y=za∨y=zb∨y=zn∨y∈ta∨y∈tb)→o' y=o y):=by
  refine ⟨fun y=>if y=a then some (.pact B.pacts.length) else if y=w then some (.inside B.pacts.length) else if y=za∨y=zb∨y=zn∨y∈ta∨y∈tb then some .data else o y,if_pos rfl,(if_neg haw.symm).trans (if_pos rfl),fun y v h1 h2=>?_,fun y v h1 h2=>?_⟩
  ·exact (if_neg (na h1)).trans ((if_neg (nw h1)).trans (if_pos h2))
  ·exact (if_neg (na h1)).trans ((if_neg (nw h1)).trans (if_neg h2))
 obtain ⟨o',oa,ow,od,oo⟩:=hd
 have nset:∀ {y v r},H y=some v→o y=some r→¬ (y=za∨y=zb∨y=zn∨y∈ta∨y∈tb):=fun {y v r} h1 h2 h=>by
  rcases h with h | h | h | h | h
  ·rw [h,hzao] at h2;contradiction
  ·rw [h,hzbo] at h2;contradiction
  ·rw [h,hzno] at h2;contradiction
  ·rw [(Zdi pa h).2.1] at h2;contradiction
  ·rw [(Zdi pb h).2.1] at h2;contradiction
 have keep:∀ {y v r},H y=some v→o y=some r→y≠p→o' y=some r∧up H6 p (.dict ep (dP B.pacts as++[(k,.ref a)])) y=some v:=fun {y v r} h1 h2 h3=>⟨(oo y v h1 (nset h1 h2)).trans h2,by rw [Zab h3];exact hold y v h1⟩
 have np:∀ {y v},H y=some v→o y=none→y≠p:=fun h1 h2 e=>by rw [e,ib.op] at h2;contradiction
 have kd:∀ {y v},H y=some v→o y=none→(y=za∨y=zb∨y=zn∨y∈ta∨y∈tb)→o' y=some .data∧up H6 p (.dict ep (dP B.pacts as++[(k,.ref a)])) y=some v:=fun {y v} h1 h2 h3=>⟨od y v h1 h3,by rw [Zab (np h1 h2)];exact hold y v h1⟩
 have pap:p≠a:=na hp
 have pwp:p≠w:=nw hp
 have ip:IsPact o' (up H6 p (.dict ep (dP B.pacts as++[(k,.ref a)]))) (0+B.pacts.length) a ⟨k,ps,gs,ns,i,.opn,[]⟩:=by
  rw [Nat.zero_add]
  refine ⟨oa,za,zb,zn,w,0,by rw [Zab pap.symm];exact hia,?_,?_,?_,?_,ow,by rw [Zab pwp.symm];exact hiw⟩
  ·exact ⟨(kd hza hzao (.inl rfl)).1,ta,(kd hza hzao (.inl rfl)).2,pa.own fun t v ht h=>kd h (Zdi pa ht).2.1 (.inr (.inr (.inr (.inl ht))))⟩
  ·exact ⟨(kd hzb hzbo (.inr (.inl rfl))).1,tb,(kd hzb hzbo (.inr (.inl rfl))).2,pb.own fun t v ht h=>kd h (Zdi pb ht).2.1 (.inr (.inr (.inr (.inr ht))))⟩
  ·exact (kd hzn hzno (.inr (.inr (.inl rfl)))).1
  ·exact (kd hzn hzno (.inr (.inr (.inl rfl)))).2
 have nb:b≠p:=Zcn ib.ob ib.op (by intro h;contradiction)
 have nf:f≠p:=Zcn ib.of ib.op (by intro h;contradiction)
 have ns':s≠p:=Zcn ib.os ib.op (by intro h;contradiction)
 have psk:pactsAt o' (up H6 p (.dict ep (dP B.pacts as++[(k,.ref a)]))) 0 as B.pacts:=ib.ps.congr (P:=Role.isP) (fun y r v hr h1 h2 _=>keep h2 h1 (fun e=>by rw [e,ib.op] at h1;obtain rfl:=Option.some.inj h1;exact hr)) trivial fun _ _=>⟨trivial,trivial⟩
 obtain ⟨p1,p2⟩:=Zhg psk ip
 refine ⟨o',⟨(keep ib.hb ib.ob nb).1,(keep hf ib.of nf).1,(keep hs ib.os ns').1,(oo p _ hp (nset hp ib.op)).trans ib.op,(keep ib.hb ib.ob nb).2,⟨e1,(keep hf ib.of nf).2⟩,⟨e2,(keep hs ib.os ns').2⟩,⟨ep,?_⟩,p1⟩,⟨fun y v h1 h2=>?_,fun y h=>?_⟩⟩
 ·show up H6 p _ p=some (.dict ep (dP (B.pacts++[_]) (as++[a])))
  exact rl Zac (rl p2 rfl)
 ·obtain ⟨h3,h4⟩:=fr.old y v h1 h2
  refine ⟨by rw [Zab (np h3 h4)];exact hold y v h3,(oo y v h3 fun h=>?_).trans h4⟩
  rcases h with h | h | h | h | h
  ·rw [h,nza] at h1;contradiction
  ·rw [h,nzb] at h1;contradiction
  ·rw [h,nzn] at h1;contradiction
  ·rw [(Zdi pa h).1] at h1;contradiction
  ·rw [(Zdi pb h).1] at h1;contradiction
 ·refine fr.gr y ?_
  cases hy:H y with
  | none=>rfl
  | some v=>have:=Zdn h;rw [hold y v hy] at this;contradiction
include G U
theorem Zrx {v last:AV} {pl gl nl:Addr} {ts us:List Addr} {pL gL:List (AV×AV)} {nL:List AV} (hU:P.fns.lookup "Book.tell" = some BK.f_Book_tell) (hU1:P.fns.lookup "Book.pairs_of" = some BK.f_Book_pairs_of) (hU2:P.fns.lookup "Book.needs_of" = some BK.f_Book_needs_of) (hU3:P.fns.lookup "Pact.__init__" = some BK.f_Pact___init__) (hcl:c.P.classes.contains "Pact" = true)
  (ib:IsBook o H b f s p as B) (ok:BkOK B) (kv:Kv v) (kl:Kv last) (hp:H pl=some (.list (ts.map .ref))) (hpo:o pl=none) (hpg:pairsG o H ts pL) (hg:H gl=some (.list (us.map .ref))) (hgo:o gl=none) (hgg:pairsG o H us gL) (hn:H nl=some (.list nL)) (hno:o nl=none) (hng:∀ v∈nL,Kv v)
  (l1:pL.length≤1000) (l2:gL.length≤1000) (l3:nL.length≤1000)
  (q:Ends (Znb B v pL gL nL last) (fun B'=>∀ o' H' as',IsBook o' H' b f s p as' B'→Fr1 o H o' H'→Q .none H') (fun cl=>∀ o' H',IsBook o' H' b f s p as B→Fr1 o H o' H'→E cl H')):CallOK c (n+4) true "Book.tell" [.ref b,v,.ref pl,.ref gl,.ref nl,last] Q E H:=by
 refine G.call (F:=BK.f_Book_tell) hU rfl ?_
 have hA:c.P.attrs=BK.attrs:=by exact rl G.hP (rl U.a.attrs rfl)
 have hM:c.P.meths=BK.meths:=by exact rl G.hP (rl U.a.meths rfl)
 refine q.gen fun A F qA qF q=>?_
 refine w_st fun K nx=>?_
 refine Zlu G U.a kv.kn ?_
 cases hnb:Zdu v with
 | false=>exact qF _ (q.f (by refine rl hnb ?_;decide)) o H ib .refl
 | true =>
 obtain ⟨k,rfl⟩:∃ k,v = .str k:=⟨_,Zd9 hnb⟩
 replace q:=q.t hnb
 refine nx _ _ ?_
 refine w_st fun K nx=>?_
 dsimp only [Zay,Zan,Zad]
 refine Zcr hA ib rfl ?_
 dsimp only [c_in]
 refine Zgz ib ?_
 cases e:pAt B.pacts k with
 | some w=>exact ⟨rfl,qF _ (q.t (congrArg Option.isSome e)) o H ib .refl⟩
 | none =>
 replace q:=q.f fun h=>Bool.false_ne_true ((congrArg Option.isSome e).symm.trans h)
 refine nx _ _ ?_
 refine w_st fun K nx=>?_
 dsimp only [Zam]
 refine Zbi hM (by decide) (by decide) ib rfl ?_
 refine Zhe G U hU1 ib hp hpo hpg l1 ?_
 cases e1:Zel B pL with
 | error cl=>exact qF _ (q.er e1)
 | ok ps =>
 replace q:Ends (tqA _ _ _ _ _ _) _ _:=q.ok e1
 intro za ta o1 H1 hza hzo1 hz1 pu1 ib1 f1
 refine ⟨show 6<9 by decide,nx _ _ ?_⟩
 refine w_st fun K nx=>?_
 dsimp only [Zam]
 refine Zbi hM (by decide) (by decide) ib1 rfl ?_
 obtain ⟨hg1,hgo1⟩:=f1.old _ _ hg hgo
 have hgg1:=hgg.fr f1
 refine Zhe G U hU1 ib1 hg1 hgo1 hgg1 l2 ?_
 cases e2:Zel B gL with
 | error cl=>exact fun o' H' ib' f'=>qF _ (q.er e2) o' H' ib' (f1.trans f')
 | ok gs =>
 replace q:Ends (tqB _ _ _ _ _ _) _ _:=q.ok e2
 intro zb tb o2 H2 hzb hzo2 hz2 pu2 ib2 f2
 refine ⟨show 7<9 by decide,nx _ _ ?_⟩
 obtain ⟨hz1',hzo1'⟩:=f2.old _ _ hz1 hzo1
 have pu1':pairsU H o2 H2 ta ps:=pu1.keep fun t v _ h1 h2=>⟨(f2.old _ _ h2 h1).2,(f2.old _ _ h2 h1).1⟩
 have pu2':=pu2.gr f1.gr
 have fr2:=f1.trans f2
 have lps:ps.length≤1000:=Zia e1
 have lgs:gs.length≤1000:=Zia e2
 refine w_st fun K nx=>?_
 show wpS _ _ _ _ _ [some (.ref b),some (.str k),some (.ref pl),some (.ref gl),some (.ref nl),some last,some (.ref za),some (.ref zb),none] _
 dsimp only [Zay,Zan]
 refine Zjx rfl rfl rfl hz1' pu1' lps fun H3 hE3=>?_
 refine Zjx rfl rfl rfl (hE3 _ _ hz2) (pu2'.ext hE3) lgs fun H4 hE4=>?_
 dsimp only [c_ne,Zag]
 have hE:=hE3.trans hE4
 have ib4:=ib2.ext hE
 have fr4:Fr1 o H o2 H4:=fr2.trans (.ext hE)
 have pa4':=pu1'.ext hE
 have pb4':=pu2'.ext hE
 have hza4:=hE _ _ hz1'
 have hzb4:=hE _ _ hz2
 by_cases hsum:sumL ps=sumL gs
 case neg =>
  refine Eq.mpr (if_pos (by simpa using hsum)) ?_
  exact ⟨rfl,qF _ (q.t hsum) o2 H4 ib4 fr4⟩
 replace q:=q.f fun h=>h hsum
 refine Eq.mpr (if_neg (by simpa using hsum)) ?_
 refine nx _ _ ?_
 refine w_st fun K nx=>?_
 dsimp only [Zam]
 refine Zbi hM (by decide) (by decide) ib4 rfl ?_
 refine Eq.mpr (Zae) (Eq.mpr (Zad) ?_)
 obtain ⟨hn4,hno4⟩:=fr4.old _ _ hn hno
 refine Zls G U hU2 ib4 hn4 hno4 hng l3 ?_
 cases e3:Zfu B k nL with
 | error cl=>exact fun o' H' ib' f'=>qF _ (q.er e3) o' H' ib' (fr4.trans f')
 | ok u =>
 replace q:Ends (tqD _ _ _ _ _ _ _) _ _:=q.ok e3
 intro zn o5 H5 hzn hzno hzn5 ib5 f5
 have fr5:=fr4.trans f5
 obtain ⟨hza5,hzao5⟩:=f5.old _ _ hza4 hzo1'
 obtain ⟨hzb5,hzbo5⟩:=f5.old _ _ hzb4 hzo2
 have pa5:pairsU H o5 H5 ta ps:=pa4'.keep fun t v _ h1 h2=>⟨(f5.old _ _ h2 h1).2,(f5.old _ _ h2 h1).1⟩
 have pb5:pairsU H o5 H5 tb gs:=pb4'.keep fun t v _ h1 h2=>⟨(f5.old _ _ h2 h1).2,(f5.old _ _ h2 h1).1⟩
 refine ⟨show 8<9 by decide,nx _ _ ?_⟩
 have hnt:nL=txs (nL.map Zax):=by
  unfold Zfu at e3
  split at e3
  ·exact Znw e3
  ·contradiction
 refine w_st fun K nx=>?_
 show wpS _ _ _ _ _ [some (.ref b),some (.str k),some (.ref pl),some (.ref gl),some (.ref nl),some last,some (.ref za),some (.ref zb),some (.ref zn)] _
 dsimp only [Zay,x_ao,Zav,Zba,Zao,Zae,Zad]
 refine Zhp G U.a kl.kn ?_
 cases hwl:Zjr last with
 | false=>exact ⟨rfl,qF _ (q.f fun h=>Bool.false_ne_true (hwl.symm.trans h.1)) o5 H5 ib5 fr5⟩
 | true =>
 obtain ⟨i,rfl⟩:∃ i,last = .int i:=by cases last<;>first | exact ⟨_,rfl⟩ | cases hwl
 (dsimp only [Zag];refine Eq.mpr (if_pos (show (!true)=false from rfl)) ?_;dsimp only [Za7,Zan,Zad])
 refine Zy7 hA ib5 rfl ?_
 dsimp only [c_lt,Zag]
 by_cases hd:i<B.day
 ·refine rl (decide_eq_true hd) ?_
  exact ⟨rfl,qF _ (q.f fun h=>h.2 hd) o5 H5 ib5 fr5⟩
 replace q:=q.t ⟨hwl,hd⟩
 refine rl (decide_eq_false hd) ?_
 refine nx _ _ ?_
 refine w_st fun K nx=>?_
 dsimp only [Zam,Zcd]
 intro a ha
 refine Zse G hU3 hA Zac fun w H6 hw hia hiw hrest=>⟨rfl,?_⟩
 have haw:a≠w:=Zgo hw
 have hw5:H5 w=none:=Zdn hw
 have hold:∀ y v,H5 y=some v→H6 y=some v:=fun y v h=>by
  have h1:y≠a:=fun z=>by rw [z,ha] at h;contradiction
  have h2:y≠w:=fun z=>by rw [z,hw5] at h;contradiction
  refine rl (hrest y h1 h2) (rl (Zab h1) ?_);exact h
 obtain ⟨ep,hpd⟩:=ib5.hp
 have hl5:=Zhv ib5.ps
 dsimp only [tsub]
 have ib6:IsBook o5 H6 b f s p as B:=ib5.ext hold
 refine Zcr hA ib6 rfl ?_
 show match H6 p with | some (.dict _ _)=>_ | _=>False
 refine rl (hold _ _ hpd) ?_
 refine ⟨by have h1:=congrArg List.length hl5.1;rw [List.length_map,List.length_map,hl5.2] at h1;refine rl h1 ?_;exact Nat.le_trans ok.len (by decide),fun ep'=>nx _ _ ?_⟩
 have hnone:Zbu (dP B.pacts as) k=none:=by refine rl (Zem ib5.ps) (rl e ?_);rfl
 have hput:putS (dP B.pacts as) k (.ref a)=dP B.pacts as++[(k,.ref a)]:=by unfold putS;refine rl hnone ?_;rfl
 refine rl hput ?_
 obtain ⟨o',ib',fr'⟩:=Zop ib5 fr5 hza (f1.gr _ hzb) (fr4.gr _ hzn) pa5 pb5 ha hw5 haw hia hiw hold hza5 hzao5 hzb5 hzbo5 (hnt▸hzn5) hzno ep'
 exact qA _ q o' _ (as++[a]) ib' fr'
end
end Mine
end
section
namespace Mine
noncomputable def Zhz (ks:List Str) (k:Str):List Str:=if k∈ks then ks else ks++[k]
theorem Zmp {es:List (Str×AV)} {k:Str}:(Zbu es k).isSome=decide (k∈es.map (·.1)):=by
 unfold Zbu
 rw [Option.isSome_map,Bool.eq_iff_iff,List.find?_isSome]
 simp
theorem Zsd {es:List (Str×AV)} {k:Str} {v:AV}:(putS es k v).map (·.1)=Zhz (es.map (·.1)) k:=by
 unfold putS Zhz
 refine rl Zmp ?_
 by_cases h:k∈es.map (·.1)
 ·simp only [h,decide_true,if_true,List.map_map]
  apply List.map_congr_left
  intro e _
  simp only [Function.comp]
  split<;>simp_all
 ·simp only [h,decide_false,if_false,Bool.false_eq_true,List.map_append,List.map_cons,List.map_nil]
theorem Zo9 {es:List (Str×AV)} {k:Str} {v:AV}:(putS es k v).length≤es.length+1:=by
 unfold putS;split<;>simp
set_option tactic.hygienic true in
theorem Znz {ks:List Str} {k x:Str}:x∈Zhz ks k↔x∈ks∨x=k:=by
 unfold Zhz
 split
 ·constructor
  ·exact .inl
  ·rintro (h | rfl)<;>assumption
 ·simp
noncomputable def Zik (l:List Str):List Str:=l.foldl Zhz []
theorem Zlv {l:List Str} {x:Str}:Zik (l++[x])=Zhz (Zik l) x:=by simp [Zik]
theorem Zp2 {l:List Str}:∀ {ks:List Str} {x:Str},x∈l.foldl Zhz ks↔x∈ks∨x∈l:=by
 induction l with
 | nil=>simp
 | cons t r ih =>
  intro ks x
  rw [List.foldl_cons,ih,Znz,List.mem_cons]
  constructor
  ·rintro ((h | h) | h)
   ·exact .inl h
   ·exact .inr (.inl h)
   ·exact .inr (.inr h)
  ·rintro (h | h | h)
   ·exact .inl (.inl h)
   ·exact .inl (.inr h)
   ·exact .inr h
theorem Zny {l:List Str} {x:Str}:x∈Zik l↔x∈l:=by unfold Zik;rw [Zp2];simp
section
variable {c:Cx} {P:Pg} (G:Gd c P) {n:Nat} {md:Bool} {Q:AV→Zaa→Prop} {E:String→Zaa→Prop} {H:Zaa}
noncomputable def TabIs (H:Zaa) (z:Addr) (l:List Str):Prop:=∃ ep es,H z=some (.dict ep es)∧es.length≤l.length∧∀ k,(Zbu es k).isSome=decide (k∈l)
theorem TabIs.ext {H H':Zaa} {z:Addr} {l:List Str} (h:TabIs H z l) (e:Ext H H'):TabIs H' z l:=by
 obtain ⟨ep,es,h1,h2⟩:=h;exact ⟨ep,es,e _ _ h1,h2⟩
theorem Zoj {no:Bool} {x:Str} {a:Addr} {l:List Str} (h:TabIs H a l) (q:Q (.bool (decide (x∈l) != no)) H):win no (.str x) (.ref a) Q H:=by
 obtain ⟨ep,es,h1,h2,h3⟩:=h
 refine Ziw h1 ?_
 refine rl (h3 ..) ?_;exact q
include G in
theorem Ziz (hf:P.fns.lookup "table_of" = some BK.f_table_of) {a:Addr} {l:List Str} (ha:H a=some (.list (txs l))) (hl:l.length≤1000)
  (q:∀ z H',Ext H H'→H z=none→TabIs H' z l→Q (.ref z) H'):CallOK c (n+1) true "table_of" [.ref a] Q E H:=by
 refine G.call (F:=BK.f_table_of) hf rfl ?_
 refine w_st fun K nx=>?_
 intro z hz
 refine ⟨show 1<3 by decide,nx _ _ ?_⟩
 refine w_st fun K nx=>?_
 dsimp only [Zb3,Zad]
 refine ⟨rfl,?_⟩
 show WFor _ _ (.ref a) _ _
 refine Ze3 (xs:=txs l) (by simp only [Zap];exact rl (Zdf ha hz) rfl) (fun k V' H'=>∃ ep es x,V'=[some (.ref a),some (.ref z),x]∧Ext H H'∧H' z=some (.dict ep es)∧es.length≤k∧es.map (·.1)=Zik (l.take k))
  ⟨0,[],none,rfl,Ext.refl.own hz,Zac,Nat.le_refl _,rfl⟩ ?_
 rintro I hI k V' H' ⟨ep,es,x,rfl,hE,hz',hlen,hk⟩
 refine ⟨by show H' a=_;exact rl (hE a _ ha) (rl (Zdf ha hz) rfl),fun hkl=>?_,fun y hy=>?_⟩
 ·rw [hkl,Zaj,List.take_length] at hk
  rw [hkl,Zaj] at hlen
  exact nx _ _ (q z H' hE hz ⟨ep,es,hz',hlen,fun key=>by refine rl Zmp (rl hk ?_);simp [Zny]⟩)
 ·obtain ⟨s,rfl,hs⟩:=Zix hy
  have hkl:k<l.length:=(List.getElem?_eq_some_iff.mp hs).1
  refine ⟨show 2<3 by decide,?_⟩
  refine w_st fun K2 nx2=>?_
  show wpS _ _ _ _ _ [some (.ref a),some (.ref z),some (.str s)] _
  refine Eq.mpr (Zam) (Eq.mpr (Zai) (Eq.mpr (tsub) (Eq.mpr (Zad) ?_)))
  show match H' z with | some (.dict _ _)=>_ | _=>False
  refine rl hz' ?_
  refine ⟨Nat.le_trans (show es.length≤1000 by lia) (by decide),fun ep'=>nx2 _ _ (hI _ _ _ ⟨ep',putS es s (.bool true),_,rfl,hE.own hz,Zac,?_,?_⟩)⟩
  ·have:=Zo9 (es:=es) (k:=s) (v:=.bool true);lia
  ·exact rl Zsd (rl hk (rl (Zc1 hs) (rl Zlv rfl)))
noncomputable def NeedsAt (H:Zaa) (d:Addr) (nd:Str→List Str) (l:List Str):Prop:=∃ ep es,H d=some (.dict ep es)∧∀ x∈l,∃ r,Zbu es x=some (.ref r)∧H r=some (.list (txs (nd x)))∧(nd x).length≤1000
theorem NeedsAt.ext {H H':Zaa} {z:Addr} {l:List Str} {nd:Str→List Str} (h:NeedsAt H z nd l) (e:Ext H H'):NeedsAt H' z nd l:=by
 obtain ⟨ep,es,h1,h2⟩:=h
 refine ⟨ep,es,e _ _ h1,fun x hx=>?_⟩
 obtain ⟨r,h3,h4,h5⟩:=h2 x hx
 exact ⟨r,h3,e _ _ h4,h5⟩
theorem NeedsAt.sub {H:Zaa} {z:Addr} {l l':List Str} {nd:Str→List Str} (h:NeedsAt H z nd l) (e:∀ x∈l',x∈l):NeedsAt H z nd l':=by
 obtain ⟨ep,es,h1,h2⟩:=h
 exact ⟨ep,es,h1,fun x hx=>h2 x (e x hx)⟩
noncomputable def metB (nd:Str→List Str) (K D:List Str) (x:Str):Bool:=(nd x).all fun o=>decide (o∈K)||decide (o∈D)
include G in
theorem Zuh (hf:P.fns.lookup "are_met" = some BK.f_are_met) {a d kt dt:Addr} {l K D:List Str} {nd:Str→List Str} (ha:H a=some (.list (txs l))) (hd:NeedsAt H d nd l) (hk:TabIs H kt K) (ht:TabIs H dt D) (hl:l.length≤1000)
  (q:∀ z H',Ext H H'→H z=none→H' z=some (.list (txs (l.filter (metB nd K D))))→Q (.ref z) H'):CallOK c (n+1) true "are_met" [.ref a,.ref d,.ref kt,.ref dt] Q E H:=by
 refine G.call (F:=BK.f_are_met) hf rfl ?_
 refine w_st fun KK nx=>?_
 intro z hz
 refine ⟨show 4<6 by decide,nx _ _ ?_⟩
 refine w_st fun KK nx=>?_
 dsimp only [Zb3,Zad]
 refine ⟨rfl,?_⟩
 show WFor _ _ (.ref a) _ _
 refine Ze3 (xs:=txs l) (by simp only [Zap];exact rl (Zdf ha hz) rfl) (fun k V' H'=>∃ x,V'=[some (.ref a),some (.ref d),some (.ref kt),some (.ref dt),some (.ref z),x]∧Ext H H'∧H' z=some (.list (txs ((l.take k).filter (metB nd K D)))))
  ⟨none,rfl,Ext.refl.own hz,Zac⟩ ?_
 rintro I hI k V' H' ⟨x,rfl,hE,hz'⟩
 refine ⟨by show H' a=_;exact rl (hE a _ ha) (rl (Zdf ha hz) rfl),fun hkl=>?_,fun y hy=>?_⟩
 ·rw [hkl,Zaj,List.take_length] at hz'
  exact nx _ _ (q z H' hE hz hz')
 ·obtain ⟨s,rfl,hs⟩:=Zix hy
  have hkl:k<l.length:=(List.getElem?_eq_some_iff.mp hs).1
  obtain ⟨ep,es,hd1,hd2⟩:=hd.ext hE
  obtain ⟨r,hr1,hr2,hr3⟩:=hd2 s (List.mem_of_getElem? hs)
  refine ⟨show 5<6 by decide,?_⟩
  refine w_st fun K2 nx2=>?_
  show wpS _ _ _ _ _ [some (.ref a),some (.ref d),some (.ref kt),some (.ref dt),some (.ref z),some (.str s)] _
  dsimp only [Zay,Zan,Zbf]
  refine ⟨rfl,?_⟩
  refine Eq.mpr (Zat) (Eq.mpr (Zad) ?_)
  show wsub (.ref d) (.str s) _ _
  (dsimp only [Zge];refine rl hd1 ?_)
  refine ⟨_,hr1,?_⟩
  refine Zjs (xs:=txs (nd s)) (by simp only [Zap];rw [hr2]) (by rw [Zaj];exact Nat.le_trans hr3 (by decide)) (fun v=>match v with | .str o=>if (decide (o∈K)||decide (o∈D)) then none else some (.str o) | _=>none) ?_ ?_
  ·intro v hv H₁ hE1 nx hnx
   obtain ⟨o,ho,rfl⟩:∃ o,o∈nd s∧v = .str o:=by
    unfold txs at hv;rw [List.mem_map] at hv;obtain ⟨o,h1,h2⟩:=hv;exact ⟨o,h1,h2.symm⟩
   refine Eq.mpr (if_neg (by decide)) (Eq.mpr (Zbs) (Eq.mpr (x_ao) (Eq.mpr (Zav) (Eq.mpr (Zan) (Eq.mpr (Zad) ?_)))))
   dsimp only [Zad]
   show wcmp .NotIn (.str o) (.ref kt) _ _
   dsimp only [Zd5]
   refine Zoj ((hk.ext hE).ext hE1) ?_
   have hn:=hnx H₁ .refl
   by_cases h1:o∈K
   ·simp only [h1,decide_true,Bool.true_or,if_true] at hn ⊢;exact hn
   ·simp only [h1,decide_false,Bool.false_or] at hn ⊢
    show wpAO _ true [_] _ _ _ _
    refine Eq.mpr (Za7) (Eq.mpr (Zan) (Eq.mpr (Zad) ?_))
    dsimp only [Zad]
    show wcmp .NotIn (.str o) (.ref dt) _ _
    dsimp only [Zd5]
    refine Zoj ((ht.ext hE).ext hE1) ?_
    by_cases h2:o∈D
    ·simp only [h2,decide_true,if_true] at hn ⊢;exact hn
    ·simp only [h2,decide_false,Bool.false_eq_true,if_false] at hn ⊢;exact hn
  ·intro b H₁ hE1 hb
   have hfm:∀ l:List Str,(txs l).filterMap (fun v=>match v with | .str o=>if (decide (o∈K)||decide (o∈D)) then none else some (AV.str o) | _=>none)=txs (l.filter fun o=>!decide (o∈K)&&!decide (o∈D)):=by
    intro l
    induction l with
    | nil=>rfl
    | cons t r ih =>
     refine rl List.filterMap_cons (rl ih (rl List.filter_cons ?_))
     by_cases h1:t∈K<;>by_cases h2:t∈D<;>simp [txs,h1,h2]
   refine rl (hfm ..) ?_
   intro b' hb'
   dsimp only [Z0r]
   refine Zg1 (l:=(nd s).filter fun o=>!decide (o∈K)&&!decide (o∈D)) (l':=[]) (Zdf Zac hb') Zac ?_
   have hz₁:H₁ z=some (.list (txs ((l.take k).filter (metB nd K D)))):=hE1 _ _ hz'
   have hbz:z≠b:=Zke hz₁ hb
   have hb1:H₁ b'=none:=by
    have:b'≠b:=fun w=>by rw [w,Zac] at hb';contradiction
    rwa [Zab this] at hb'
   have hbz':z≠b':=Zke hz₁ hb1
   have hz₂:(up (up H₁ b (.list (txs ((nd s).filter fun o=>!decide (o∈K)&&!decide (o∈D))))) b' (.list [])) z=some (.list (txs ((l.take k).filter (metB nd K D)))):=by
    refine rl (Zab hbz') (rl (Zab hbz) ?_);exact hz₁
   have hE2:Ext H (up (up H₁ b (.list (txs ((nd s).filter fun o=>!decide (o∈K)&&!decide (o∈D))))) b' (.list [])):=((hE.trans hE1).new hb).new hb'
   have hm:decide ((nd s).filter (fun o=>!decide (o∈K)&&!decide (o∈D))=[])=metB nd K D s:=by
    unfold metB
    rw [Bool.eq_iff_iff]
    simp only [decide_eq_true_eq,List.filter_eq_nil_iff,List.all_eq_true,Bool.or_eq_true,Bool.and_eq_true,Bool.not_eq_true',decide_eq_false_iff_not]
    constructor
    ·intro h o ho
     by_cases h1:o∈K
     ·exact .inl h1
     ·exact .inr (Classical.byContradiction fun h2=>h o ho ⟨h1,h2⟩)
    ·rintro h o ho ⟨h1,h2⟩
     rcases h o ho with z | z
     ·exact h1 z
     ·exact h2 z
   refine rl hm ?_
   cases h:metB nd K D s with
   | true =>
    refine w_st fun K3 nx3=>?_
    refine ⟨?_,?_⟩
    ·show match (up (up H₁ b _) b' _) z with | some (.list _)=>_ | some (.dict _ _)=>_ | _=>False
     refine rl hz₂ ?_;exact .inl rfl
    dsimp only [Zae,Zad]
    show wpXs _ [] _ _ _ _
    dsimp only [Zah]
    refine Zdp hz₂ (by have:=List.length_filter_le (metB nd K D) (l.take k);rw [List.length_take] at this;refine rl Zaj ?_;omega) (nx3 _ _ (nx2 _ _ ?_))
    refine hI _ _ _ ⟨_,rfl,hE2.own hz,?_⟩
    refine rl (Zac ..) (rl (Zc1 hs ..) (rl (List.filter_append ..) (rl (Zgr ..) ?_)))
    simp [h]
   | false =>
    refine nx2 _ _ (hI _ _ _ ⟨_,rfl,hE2,?_⟩)
    refine rl (hz₂ ..) (rl (Zc1 hs ..) (rl (List.filter_append ..) ?_))
    simp [h]
end
noncomputable def Zm7 (full:List Str) (nd:Str→List Str) (done:List Str) (S:Str→Prop):Prop:=∀ x,S x→x∈full∧∀ o∈nd x,S o∨o∈done
structure Grt (full:List Str) (nd:Str→List Str) (done g:List Str):Prop where
 sub:g.Sublist full
 met:∀ x∈g,∀ o∈nd x,o∈g∨o∈done
 top:∀ S,Zm7 full nd done S→∀ x,S x→x∈g
theorem Zl0 {α:Type} {p:α→Bool} {l:List α} (h:l.length≤(l.filter p).length):l.filter p=l:=by
 apply List.Sublist.eq_of_length List.filter_sublist
 have:=List.length_filter_le p l
 lia
section
variable {c:Cx} {P:Pg} (G:Gd c P) {n:Nat} {Q:AV→Zaa→Prop} {E:String→Zaa→Prop} {H:Zaa}
noncomputable def GInv (H:Zaa) (full done:List Str) (nd:Str→List Str) (fu d dn rd:Addr) (k:Nat) (V':VV) (H':Zaa):Prop :=
 ∃ na fo nl,V'=[some (.ref fu),some (.ref d),some (.ref dn),some (.ref rd),some (.ref na),some (.ref fo)]∧Ext H H'∧TabIs H' rd done∧H' na=some (.list (txs nl))∧k=nl.length∧nl.Sublist full ∧
  (∀ S,Zm7 full nd done S→∀ x,S x→x∈nl)∧H' fo=some (.list (txs (nl.filter (metB nd nl done))))∧H fo=none
theorem Zp1 {full done nl:List Str} {nd:Str→List Str} (h:∀ S,Zm7 full nd done S→∀ x,S x→x∈nl):∀ S,Zm7 full nd done S→∀ x,S x→x∈nl.filter (metB nd nl done):=by
 intro S hS x hx
 rw [List.mem_filter]
 refine ⟨h S hS x hx,?_⟩
 unfold metB
 rw [List.all_eq_true]
 intro o ho
 rcases (hS x hx).2 o ho with z | z
 ·simp [h S hS o z]
 ·simp [z]
set_option tactic.hygienic true in
include G in
theorem Zly (h1:P.fns.lookup "greatest" = some BK.f_greatest) (h2:P.fns.lookup "are_met" = some BK.f_are_met) (h3:P.fns.lookup "table_of" = some BK.f_table_of) {fu d dn:Addr} {full done:List Str} {nd:Str→List Str}
  (hf:H fu=some (.list (txs full))) (hd:NeedsAt H d nd full) (hn:H dn=some (.list (txs done))) (lf:full.length≤1000) (ld:done.length≤1000)
  (q:∀ z H' g,Ext H H'→H z=none→H' z=some (.list (txs g))→Grt full nd done g→Q (.ref z) H'):CallOK c (n+2) true "greatest" [.ref fu,.ref d,.ref dn] Q E H:=by
 refine G.call (F:=BK.f_greatest) h1 rfl ?_
 show wpSs _ _ _ _ _ [some (.ref fu),some (.ref d),some (.ref dn),none,none,none] _
 refine w_st fun KK nx=>?_
 dsimp only [Zam,tv,List.length_cons,List.length_nil,Nat.reduceAdd,List.set_cons_succ,List.set_cons_zero,Zao,Zae,Zah,Zad,List.getElem?_cons_succ,v_0]
 refine Ziz G h3 hn ld fun rd H₁ hE1 hrd ht1=>⟨by decide,nx _ _ ?_⟩
 refine w_st fun KK nx=>?_
 dsimp only [Zam,tv,List.length_cons,List.length_nil,Nat.reduceAdd,List.set_cons_succ,List.set_cons_zero,Zal,Zae,Zah,Zad,v_0]
 refine Zja (hE1 _ _ hf) lf fun na hna=>⟨by decide,nx _ _ ?_⟩
 have hE2:=hE1.new (o:=.list (txs full)) hna
 refine w_st fun KK nx=>?_
 dsimp only [Zam,tv,List.length_cons,List.length_nil,Nat.reduceAdd,List.set_cons_succ,List.set_cons_zero,Zao,Zae,Zah,Zad,List.getElem?_cons_succ,v_0]
 refine Ziz G h3 (a:=na) (l:=full) Zac lf fun kt H₃ hE₃ hkt ht3=>?_
 have hE:Ext H H₃:=hE2.trans hE₃
 have hE13:Ext H₁ H₃:=(Ext.refl.new hna).trans hE₃
 have hna3:H₃ na=some (.list (txs full)):=hE₃ _ _ Zac
 refine Zuh G h2 hna3 (hd.ext hE) ht3 (ht1.ext hE13) lf fun fo H₄ hE₄ hfo hfo'=>⟨by decide,nx _ _ ?_⟩
 refine w_st fun KK nx=>?_
 dsimp only [Zbv]
 refine ⟨rfl,GInv H full done nd fu d dn rd,⟨full.length,na,fo,full,rfl,hE.trans hE₄,(ht1.ext hE13).ext hE₄,hE₄ _ _ hna3,rfl,List.Sublist.refl _,fun S hS x hx=>(hS x hx).1,hfo',hE.none hfo⟩,?_⟩
 rintro k V' H' ⟨na',fo',nl,rfl,hX,hR,hN,rfl,hS,hT,hF,hFn⟩
 have hlen:nl.length≤full.length:=hS.length_le
 have hlen':=List.length_filter_le (metB nd nl done) nl
 have hS':(nl.filter (metB nd nl done)).Sublist full:=List.filter_sublist.trans hS
 have hT':=Zp1 hT
 generalize hfl:nl.filter (metB nd nl done)=fl at hF hlen' hS' hT'
 dsimp only [Zan,Zal,Zae,Zah,Zad,List.getElem?_cons_succ,v_0]
 refine Zph hF (by refine rl Zaj ?_;lia) ?_
 refine Zph hN (by refine rl Zaj ?_;exact Nat.le_trans (by assumption) (Nat.le_trans (by assumption) (by decide))) ?_
 (dsimp only [c_lt,Zag];refine rl Zaj (rl Zaj ?_))
 by_cases hlt:fl.length<nl.length
 ·refine rl (decide_eq_true (by exact Int.ofNat_lt.mpr (by assumption))) ?_
  show wpSs _ _ _ _ _ [some (.ref fu),some (.ref d),some (.ref dn),some (.ref rd),some (.ref na'),some (.ref fo')] _
  refine w_st fun K2 nx2=>?_
  refine ⟨show 4<6 by decide,nx2 _ _ ?_⟩
  refine w_st fun K2 nx2=>?_
  dsimp only [List.set_cons_succ,List.set_cons_zero,Zam,tv,List.length_cons,List.length_nil,Nat.reduceAdd,Zao,Zae,Zah,Zad,List.getElem?_cons_succ,v_0]
  refine Ziz G h3 hF (by lia) fun kt' H₅ hE5 _ ht₅=>?_
  refine Zuh G h2 (hE5 _ _ hF) (((hd.ext hX).ext hE5).sub fun x hx=>hS'.subset hx) ht₅ (hR.ext hE5) (by lia) fun fo2 H₆ hE6 hfo2 hfo2'=>⟨by decide,nx2 _ _ ?_⟩
  exact ⟨_,hlt,fo',fo2,_,rfl,(hX.trans hE5).trans hE6,(hR.ext hE5).ext hE6,hE6 _ _ (hE5 _ _ hF),rfl,hS',hT',hfo2',(hX.trans hE5).none hfo2⟩
 ·refine rl (decide_eq_false (by lia)) ?_
  refine nx _ _ ?_
  have he:fl=nl:=by
   rw [← hfl] at hlt ⊢
   exact Zl0 (by exact Nat.not_lt.mp (by assumption))
  rw [he] at hF
  refine q fo' H' nl hX hFn hF ⟨hS,fun x hx o ho=>?_,hT⟩
  rw [← he,← hfl,List.mem_filter] at hx
  have:=hx.2
  unfold metB at this
  rw [List.all_eq_true] at this
  simpa using this o ho
end
end Mine
end
section
namespace Mine
noncomputable def Zca (ps:List Pc):List Str:=(ps.filter Zck).map (·.name)
noncomputable def Zh4 (ps:List Pc):List Str:=(ps.filter fun x=>x.state==.dn).map (·.name)
noncomputable def ndB (B:Bk) (k:Str):List Str:=match pAt B.pacts k with
 | some e=>e.2.needs
 | none=>[]
theorem Zn7 {ps:List Pc} {x:Pc}:Zca (ps++[x])=Zca ps++(if Zck x then [x.name] else []):=by
 unfold Zca;refine rl (List.filter_append ..) (rl (List.map_append ..) ?_)
 cases h:Zck x<;>simp [h]
theorem Zoc {ps:List Pc} {x:Pc}:Zh4 (ps++[x])=Zh4 ps++(if x.state==.dn then [x.name] else []):=by
 unfold Zh4;refine rl (List.filter_append ..) (rl (List.map_append ..) ?_)
 cases h:x.state==Sta.dn<;>simp [h]
theorem Zht {ps:List Pc}:(Zca ps).length≤ps.length:=by unfold Zca;refine rl (List.length_map ..) ?_;exact List.length_filter_le _ _
theorem Zkt {ps:List Pc}:(Zh4 ps).length≤ps.length:=by unfold Zh4;refine rl (List.length_map ..) ?_;exact List.length_filter_le _ _
theorem Zdj:∀ {ps:List Pc} {j:Nat} {x:Pc},(ps.map (·.name)).Nodup→ps[j]? = some x→pAt ps x.name=some (j,x)
 | q::r,0,x,_,h=>by obtain rfl:=Option.some.inj h;unfold pAt;exact rl (if_pos rfl) rfl
 | q::r,j+1,x,hn,h=>by
  rw [List.map_cons,List.nodup_cons] at hn
  have hx:x∈r:=List.mem_of_getElem? h
  unfold pAt
  refine rl (if_neg (fun e=>hn.1 (by rw [e];exact List.mem_map_of_mem hx))) (rl (Zdj hn.2 h) ?_);rfl
 | [],_,_,_,h=>by contradiction
noncomputable def NAt (o:Addr→Option Role) (H:Zaa) (r e:Addr) (nd:Str→List Str) (es:List (Str×AV)) (l:List Str):Prop:=∀ x∈l,∃ ρ,Zbu es x=some (.ref ρ)∧ρ≠r∧ρ≠e∧o ρ=none∧H ρ=some (.list (txs (nd x)))∧(nd x).length≤1000
theorem NAt.keep {o o':Addr→Option Role} {H H':Zaa} {r e:Addr} {nd:Str→List Str} {es:List (Str×AV)} {l:List Str} (h:NAt o H r e nd es l) (k:∀ ρ v,ρ≠r→ρ≠e→o ρ=none→H ρ=some (.list v)→o' ρ=none∧H' ρ=some (.list v)):NAt o' H' r e nd es l:=fun x hx=>by
 obtain ⟨ρ,h1,h2,h3,h4,h5,h6⟩:=h x hx
 have:=k ρ _ h2 h3 h4 h5
 exact ⟨ρ,h1,h2,h3,this.1,this.2,h6⟩
theorem Zs2 {es:List (Str×AV)} {k x:Str} {v:AV}:Zbu (putS es k v) x=if x=k then some v else Zbu es x:=by
 unfold putS
 by_cases h:(Zbu es k).isSome=true
 ·refine rl (if_pos h) ?_
  unfold Zbu at h ⊢
  induction es with
  | nil=>cases h
  | cons e r ih =>
   refine rl List.map_cons (rl (List.find?_cons) (rl (List.find?_cons) ?_))
   rw [List.find?_cons] at h
   by_cases e1:e.1=k
   ·refine rl (if_pos e1) ?_
    by_cases e2:x=k
    ·refine rl (show decide ((e.1,v).1=x)=true from decide_eq_true (e1.trans e2.symm)) (rl (if_pos e2) ?_);rfl
    ·have e3:e.1≠x:=fun z=>e2 (z.symm.trans e1)
     refine rl (show decide ((e.1,v).1=x)=false from decide_eq_false e3) (rl (if_neg e2) ?_)
     clear ih h
     show Option.map _ (List.find? _ _)=Option.map _ (List.find? _ _)
     congr 1
     induction r with
     | nil=>rfl
     | cons a r ih =>
      refine rl List.map_cons (rl (List.find?_cons) (rl (List.find?_cons) ?_))
      by_cases a1:a.1=k
      ·refine rl (if_pos a1) ?_
       have:a.1≠x:=fun z=>e2 (z.symm.trans a1)
       refine rl (show decide ((a.1,v).1=x)=false from decide_eq_false this) ?_;exact ih
      ·refine rl (if_neg a1) ?_
       cases decide (a.1=x)
       ·exact ih
       ·rfl
   ·refine rl (if_neg e1) ?_
    rw [show decide (e.1=k)=false from decide_eq_false e1] at h
    by_cases e2:e.1=x
    ·exact rl (show decide (e.1=x)=true from decide_eq_true e2) (rl (if_neg (fun z=>e1 (e2.trans z))) rfl)
    ·refine rl (show decide (e.1=x)=false from decide_eq_false e2) ?_;exact ih h
 ·refine rl (if_neg h) ?_
  have hn:Zbu es k=none:=by cases q:Zbu es k with | none=>rfl | some=>rw [q] at h;exact absurd rfl h
  clear h
  unfold Zbu at hn ⊢
  rw [List.find?_append,Option.map_eq_none_iff] at *
  by_cases e2:x=k
  ·refine rl (if_pos e2) (rl e2 (rl hn ?_));simp
  ·refine rl (if_neg e2) ?_
   cases List.find? (fun e=>decide (e.1=x)) es with
   | none=>simp [show ¬ k=x from fun z=>e2 z.symm]
   | some w=>rfl
inductive Zrq (B:Bk) (o:Addr→Option Role) (H:Zaa) (b f s p:Addr) (as:List Addr) (zv r d e:Addr) (m1 m2:Nat) (V':VV) (H':Zaa):Prop
 | mk (o':Addr→Option Role) (ep:Nat) (es:List (Str×AV)) (pr:Option AV) (hV:V'=[some (.ref b),some (.ref r),some (.ref d),some (.ref e),pr]) (ib:IsBook o' H' b f s p as B) (fr:Fr1 o H o' H') (hz:H' zv=some (.list (as.map .ref))) (hr:H' r=some (.list (txs (Zca (B.pacts.take m1))))) (hd:H' d=some (.dict ep es)) (he:H' e=some (.list (txs (Zh4 (B.pacts.take m2)))))
   (zo:o' zv=none) (ro:o' r=none) (dO:o' d=none) (eo:o' e=none) (hl:es.length≤m1) (hn:NAt o' H' r e (ndB B) es (Zca (B.pacts.take m1))):Zrq B o H b f s p as zv r d e m1 m2 V' H'
theorem IsBook.some {o:Addr→Option Role} {H:Zaa} {b f s p:Addr} {as:List Addr} {B:Bk} (ib:IsBook o H b f s p as B):∃ y,H b=Option.some y:=⟨_,ib.hb⟩
section
variable {c:Cx} {P:Pg} (G:Gd c P) (U:HasP P) {n:Nat} {md:Bool} {Q:AV→Zaa→Prop} {E:String→Zaa→Prop} {H:Zaa} {o:Addr→Option Role} {b f s p a:Addr} {as:List Addr} {B:Bk} {j:Nat} {x:Pc}
include G U
theorem Zk9 (hU:P.fns.lookup "Book.standing" = some BK.f_Book_standing) (hU1:P.fns.lookup "Pact.is_full" = some BK.f_Pact_is_full) (ib:IsBook o H b f s p as B) (ok:BkOK B) (nd:(B.pacts.map (·.name)).Nodup)
  (q:∀ z r d e o' H',H z=none→o' z=none→o' r=none→o' d=none→o' e=none→H' z=some (.tuple [.ref r,.ref d,.ref e])→H' r=some (.list (txs (Zca B.pacts)))→NeedsAt H' d (ndB B) (Zca B.pacts)→H' e=some (.list (txs (Zh4 B.pacts)))→IsBook o' H' b f s p as B→Fr1 o H o' H'→Q (.ref z) H'):CallOK c (n+2) true "Book.standing" [.ref b] Q E H:=by
 refine G.call (F:=BK.f_Book_standing) hU rfl ?_
 have hA:c.P.attrs=BK.attrs:=by exact rl G.hP (rl U.a.attrs rfl)
 have hM:c.P.meths=BK.meths:=by exact rl G.hP (rl U.a.meths rfl)
 show wpSs _ _ _ _ _ [some (.ref b),none,none,none,none] _
 refine w_st fun K nx=>?_
 intro r hr0
 refine ⟨show 1<5 by decide,nx _ _ ?_⟩
 obtain ⟨ib1,f1⟩:=ib.fresh hr0 (.list [])
 refine w_st fun K nx=>?_
 intro d hd0
 refine ⟨show 2<5 by decide,nx _ _ ?_⟩
 obtain ⟨ib2,f2⟩:=ib1.fresh hd0 (.dict 0 [])
 refine w_st fun K nx=>?_
 intro e he0
 refine ⟨show 3<5 by decide,nx _ _ ?_⟩
 obtain ⟨ib3,f3⟩:=ib2.fresh he0 (.list [])
 have hrd:r≠d:=Zgo hd0
 have hde:d≠e:=Zgo he0
 have hre:r≠e:=Zgo (by rw [Zab hde.symm] at he0;exact he0)
 have hd':H d=none:=Zdn hd0
 have he':H e=none:=Zdn (Zdn he0)
 obtain ⟨r2,ro2⟩:=f2.old r _ Zac (if_pos rfl)
 obtain ⟨r3,ro3⟩:=f3.old r _ r2 ro2
 obtain ⟨d3,do3⟩:=f3.old d _ Zac (if_pos rfl)
 have fr3:=(f1.trans f2).trans f3
 obtain ⟨o3,H3,ib3,fr3,r3,d3,e3,ro3,do3,eo3⟩:∃ o3 H3,IsBook o3 H3 b f s p as B∧Fr1 o H o3 H3∧H3 r=some (.list [])∧H3 d=some (.dict 0 [])∧H3 e=some (.list [])∧o3 r=none∧o3 d=none∧o3 e=none∧H3=up (up (up H r (.list [])) d (.dict 0 [])) e (.list []):=⟨_,_,ib3,fr3,r3,d3,Zac,ro3,do3,if_pos rfl,rfl⟩
 obtain ⟨eo3,hH3⟩:=eo3
 refine rl hH3.symm ?_
 refine w_st fun K nx=>?_
 refine ⟨rfl,?_⟩
 refine Zjt hA rfl ib3 ok.len rfl fun zv o4 H4 hzv0 hzvo hzv ib4 f4=>?_
 obtain ⟨r4,ro4⟩:=f4.old _ _ r3 ro3
 obtain ⟨d4,do4⟩:=f4.old _ _ d3 do3
 obtain ⟨e4,eo4⟩:=f4.old _ _ e3 eo3
 obtain ⟨_,hlen⟩:=Zhv ib4.ps
 have fr4:=fr3.trans f4
 have hzr:zv≠r:=fun h=>by rw [h,r3] at hzv0;contradiction
 have hzd:zv≠d:=fun h=>by rw [h,d3] at hzv0;contradiction
 have hze:zv≠e:=fun h=>by rw [h,e3] at hzv0;contradiction
 clear hH3 f1 f2 f3 r2 ro2 ib1 ib2
 refine Ze3 (xs:=as.map .ref) (by simp only [Zap];exact rl hzv rfl) (fun m V' H'=>Zrq B o H b f s p as zv r d e m m V' H') ⟨o4,0,[],none,rfl,ib4,fr4,hzv,r4,d4,e4,hzvo,ro4,do4,eo4,Nat.le_refl _,fun x hx=>by contradiction⟩ ?_
 rintro I hI m V' H' ⟨o',ep,es,pr,rfl,ib',fr',hz',hr',hdd',hee',zo',ro',do',eo',hl',hn'⟩
 refine ⟨by show H' zv=_;exact rl hz' (rl hzv rfl),fun hm=>?_,fun y hy=>?_⟩
 ·rw [List.length_map,hlen] at hm
  rw [hm,List.take_length] at hr' hee' hn'
  refine nx _ _ ?_
  refine w_st fun K nx=>?_
  intro z hz0
  obtain ⟨ib5,f5⟩:=ib'.fresh hz0 (.tuple [.ref r,.ref d,.ref e])
  obtain ⟨r5,ro5⟩:=f5.old _ _ hr' ro'
  obtain ⟨d5,do5⟩:=f5.old _ _ hdd' do'
  obtain ⟨e5,eo5⟩:=f5.old _ _ hee' eo'
  refine q z r d e _ _ (fr'.gr z hz0) (if_pos rfl) ro5 do5 eo5 Zac r5 ⟨ep,es,d5,fun x hx=>?_⟩ e5 ib5 (fr'.trans f5)
  obtain ⟨ρ,h1,_,_,h4,h5,h6⟩:=hn' x hx
  exact ⟨ρ,h1,(f5.old _ _ h5 h4).1,h6⟩
 rw [List.getElem?_map,Option.map_eq_some_iff] at hy
 obtain ⟨a,ha,rfl⟩:=hy
 obtain ⟨x,hx⟩:∃ x,B.pacts[m]? = some x:=⟨B.pacts[m]'(by refine rl hlen.symm ?_;exact (List.getElem?_eq_some_iff.mp ha).1),List.getElem?_eq_getElem _⟩
 have hin:=ok.inl m x hx
 have hml:m<B.pacts.length:=(List.getElem?_eq_some_iff.mp hx).1
 have hpl:=ok.len
 have htk:B.pacts.take (m+1)=B.pacts.take m++[x]:=by refine rl List.take_add_one (rl hx ?_);rfl
 have hndx:ndB B x.name=x.needs:=by unfold ndB;exact rl (Zdj nd hx) rfl
 refine ⟨show 4<5 by decide,?_⟩
 refine w_st fun K2 nx2=>?_
 show wpS _ _ _ _ _ [some (.ref b),some (.ref r),some (.ref d),some (.ref e),some (.ref a)] _
 have second:∀ H1,Zrq B o H b f s p as zv r d e (m+1) m [some (.ref b),some (.ref r),some (.ref d),some (.ref e),some (.ref a)] H1→K2 [some (.ref b),some (.ref r),some (.ref d),some (.ref e),some (.ref a)] H1:=by
  rintro H1 ⟨o1,ep1,es1,pr1,hV1,ib1,fr1,hz1,hr1,hd1,he1,zo1,ro1,do1,eo1,hl1,hn1⟩
  refine nx2 _ _ ?_
  refine w_st fun K3 nx3=>?_
  dsimp only [Zay,Zan]
  refine Zgu hA (ib1.pact hx ha) rfl ?_
  (dsimp only [Zai,Zdc,Zag];refine rl Zw3 ?_)
  have hdn:=Zoc (ps:=B.pacts.take m) (x:=x)
  cases hs:x.state==Sta.dn with
  | false =>
   rw [hs] at hdn
   refine nx3 _ _ (hI _ _ _ ⟨o1,ep1,es1,_,rfl,ib1,fr1,hz1,hr1,hd1,?_,zo1,ro1,do1,eo1,hl1,hn1⟩)
   refine rl htk (rl hdn (rl he1 ?_));simp
  | true =>
   rw [hs] at hdn
   refine w_st fun K4 nx4=>?_
   refine ⟨?_,?_⟩
   ·show match H1 e with | some (.list _)=>_ | some (.dict _ _)=>_ | _=>False
    refine rl he1 ?_;exact .inl rfl
   dsimp only [Zae]
   refine Zi9 hA (ib1.pact hx ha) rfl ?_
   dsimp only [Zah]
   refine Zdp he1 (by refine rl Zaj ?_;have:=Zkt (ps:=B.pacts.take m);rw [List.length_take] at this;lia) (nx4 _ _ (nx3 _ _ (hI _ _ _ ⟨o1,ep1,es1,_,rfl,ib1.upN eo1 _,fr1.upF he',?_,?_,?_,?_,zo1,ro1,do1,eo1,hl1,hn1.keep fun ρ v h1 h2 h3 h4=>⟨h3,by refine rl (Zab h2) ?_;exact h4⟩⟩)))
   ·refine rl (Zab hze) ?_;exact hz1
   ·refine rl (Zab hre) ?_;exact hr1
   ·refine rl (Zab hde) ?_;exact hd1
   ·refine rl Zac (rl htk (rl hdn (rl Zgr ?_)));rfl
 have hfu:=Zn7 (ps:=B.pacts.take m) (x:=x)
 dsimp only [Zay]
 refine Zli hA (ib'.pact hx ha) rfl hM (by decide) (by decide) ?_
 refine Zim G hU1 hA (ib'.pact hx ha) hin.1 hin.2.1 ?_
 cases hs:Zck x with
 | false =>
  rw [hs] at hfu
  refine second H' ⟨o',ep,es,_,rfl,ib',fr',hz',?_,hdd',hee',zo',ro',do',eo',Nat.le_succ_of_le hl',?_⟩
  ·refine rl htk (rl hfu (rl hr' ?_));simp
  ·refine rl htk (rl hfu ?_);simpa using hn'
 | true =>
 rw [hs] at hfu
 refine w_st fun K3 nx3=>?_
 refine ⟨?_,?_⟩
 ·show match H' r with | some (.list _)=>_ | some (.dict _ _)=>_ | _=>False
  refine rl hr' ?_;exact .inl rfl
 dsimp only [Zae]
 refine Zi9 hA (ib'.pact hx ha) rfl ?_
 dsimp only [Zah]
 refine Zdp hr' (by refine rl Zaj ?_;have:=Zht (ps:=B.pacts.take m);rw [List.length_take] at this;lia) (nx3 _ _ ?_)
 have ib5:=ib'.upN ro' (.list (txs (Zca (B.pacts.take m))++[.str x.name]))
 have fr5:Fr1 o H o' (up H' r (.list (txs (Zca (B.pacts.take m))++[.str x.name]))):=fr'.upF hr0
 have n5:=hn'.keep (H':=up H' r (.list (txs (Zca (B.pacts.take m))++[.str x.name]))) fun ρ v h1 h2 h3 h4=>⟨h3,by refine rl (Zab h1) ?_;exact h4⟩
 have z5:up H' r (.list (txs (Zca (B.pacts.take m))++[.str x.name])) zv=some (.list (as.map .ref)):=by refine rl (Zab hzr) ?_;exact hz'
 have d5:up H' r (.list (txs (Zca (B.pacts.take m))++[.str x.name])) d=some (.dict ep es):=by refine rl (Zab hrd.symm) ?_;exact hdd'
 have e5:up H' r (.list (txs (Zca (B.pacts.take m))++[.str x.name])) e=some (.list (txs (Zh4 (B.pacts.take m)))):=by refine rl (Zab hre.symm) ?_;exact hee'
 have r5:up H' r (.list (txs (Zca (B.pacts.take m))++[.str x.name])) r=some (.list (txs (Zca (B.pacts.take m))++[.str x.name])):=Zac
 generalize up H' r (.list (txs (Zca (B.pacts.take m))++[.str x.name]))=H5 at ib5 fr5 n5 z5 d5 e5 r5
 refine w_st fun K4 nx4=>?_
 dsimp only [Zam,Zal,Zae]
 refine Zmj hA (ib5.pact hx ha) rfl fun zn _ hzn=>?_
 dsimp only [Zah]
 refine Zja hzn (Nat.le_trans hin.2.2.2 (by decide)) fun ρ hρ=>?_
 obtain ⟨ib6,f6⟩:=ib5.fresh hρ (.list (txs x.needs))
 have fr6:=fr5.trans f6
 obtain ⟨z6,zo6⟩:=f6.old _ _ z5 zo'
 obtain ⟨d6,do6⟩:=f6.old _ _ d5 do'
 obtain ⟨e6,eo6⟩:=f6.old _ _ e5 eo'
 obtain ⟨r6,ro6⟩:=f6.old _ _ r5 ro'
 dsimp only [tsub,Zad]
 show wpX _ (.attr (.var 4) "name") _ _ _ _
 refine Zi9 hA (ib6.pact hx ha) rfl ?_
 show match up H5 ρ (.list (txs x.needs)) d with | some (.dict _ _)=>_ | _=>False
 refine rl d6 ?_
 have hρr:ρ≠r:=fun h=>by rw [h,r5] at hρ;cases hρ
 have hρe:ρ≠e:=fun h=>by rw [h,e5] at hρ;cases hρ
 have hρd:ρ≠d:=fun h=>by rw [h,d5] at hρ;cases hρ
 refine ⟨Nat.le_trans (show es.length≤1000 by lia) (by decide),fun ep'=>nx4 _ _ (second _ ⟨_,ep',putS es x.name (.ref ρ),_,rfl,ib6.upN do6 _,fr6.upF hd',?_,?_,Zac,?_,zo6,ro6,do6,eo6,?_,?_⟩)⟩
 ·refine rl (Zab hzd) ?_;exact z6
 ·refine rl (Zab hrd) (rl r6 (rl htk (rl hfu (rl Zgr ?_))));rfl
 ·refine rl (Zab hde.symm) ?_;exact e6
 ·have:=Zo9 (es:=es) (k:=x.name) (v:=.ref ρ);lia
 ·intro y hy
  refine rl Zs2 ?_
  by_cases hyx:y=x.name
  ·refine rl (if_pos hyx) ?_
   refine ⟨ρ,rfl,hρr,hρe,if_pos rfl,?_,?_⟩
   ·exact rl (Zab hρd) (rl Zac (rl hyx (rl hndx rfl)))
   ·refine rl hyx (rl hndx ?_);exact Nat.le_trans hin.2.2.2 (by decide)
  ·refine rl (if_neg hyx) ?_
   rw [htk,hfu] at hy
   have hy':y∈Zca (B.pacts.take m):=by
    rcases List.mem_append.mp hy with h | h
    ·exact h
    ·exact absurd (List.mem_singleton.mp h) hyx
   obtain ⟨ρ',h1,h2,h3,h4,h5,h6⟩:=n5 y hy'
   obtain ⟨h7,h8⟩:=f6.old _ _ h5 h4
   refine ⟨ρ',h1,h2,h3,h8,?_,h6⟩
   refine rl (Zab (fun z=>by rw [z,d6] at h7;cases h7)) ?_;exact h7
end
end Mine
end
section
namespace Mine
section
variable {o:Addr→Option Role} {H:Zaa} {b f s p a:Addr} {as:List Addr} {B:Bk} {j:Nat} {x:Pc} {Q:AV→Zaa→Prop} {E:String→Zaa→Prop}
noncomputable def payAll:List (Str×Int)→Bk→Bk
 | [],B=>B
 | e::l,B=>payAll l { B with aside:=pt B.aside e.1 ((lk B.aside e.1).getD 0 - e.2) }
theorem Zhd {e:Str×Int}:∀ {l:List (Str×Int)} {B:Bk},payAll (l++[e]) B = { payAll l B with aside:=pt (payAll l B).aside e.1 ((lk (payAll l B).aside e.1).getD 0 - e.2) }
 | [],B=>rfl
 | _::l,B=>Zhd (l:=l)
theorem SameB.payAll:∀ {l:List (Str×Int)} {B:Bk},(∀ e∈l,hs B.aside e.1=true)→SameB B (Mine.payAll l B)∧(Mine.payAll l B).pacts=B.pacts
 | [],B,_=>⟨.refl,rfl⟩
 | e::l,B,h=>by
  have h0:=h e List.mem_cons_self
  have s1:SameB B { B with aside:=pt B.aside e.1 ((lk B.aside e.1).getD 0 - e.2) }:=⟨rfl,rfl,(Zek h0).1,fun _=>rfl,(Zek h0).2⟩
  obtain ⟨s2,p2⟩:=SameB.payAll (l:=l) (B:={ B with aside:=pt B.aside e.1 ((lk B.aside e.1).getD 0 - e.2) }) fun e' he=>by refine rl (s1.ah ..) ?_;exact h e' (List.mem_cons_of_mem _ he)
  exact ⟨s1.trans s2,p2⟩
theorem Zlg {g:Gx} {V:VV} {QN:VV→Zaa→Prop} {QR:AV→Zaa→Prop} {EE:String→VV→Zaa→Prop} {v1 v2 v3 v5:Option AV} (hA:g.c.P.attrs=BK.attrs) (hmd:g.md=true) (ib:IsBook o H b f s p as B) (hj:B.pacts[j]? = some x) (ha:as[j]? = some a) (hV:V=[some (.ref b),v1,v2,v3,some (.ref a),v5]) (hz:B.aside.length≤sizeLine) (able:∀ e∈x.parts,hs B.aside e.1=true)
  (q:∀ H' v5',IsBook o H' b f s p as (payAll x.parts B)→Fr1 o H o H'→KD o H H'→QN [some (.ref b),v1,v2,v3,some (.ref a),v5'] H') :
  wpS g (.for (.var 5) (.attr (.var 4) "parts") [.assign (.sub (.attr (.var 0) "aside") (.sub (.var 5) (.lit (.int 0)))) (.bin .Sub (.sub (.attr (.var 0) "aside") (.sub (.var 5) (.lit (.int 0)))) (.sub (.var 5) (.lit (.int 1))))]) QN QR EE V H:=by
 subst hV
 refine rl Zb3 ?_
 refine ⟨hmd,?_⟩
 refine Zfr hA (ib.pact hj ha) rfl fun z ⟨hzd,ts,hts,hl⟩=>?_
 refine Ze3 (xs:=ts.map .ref) (by simp only [Zap];rw [hts]) (fun m V' H'=>(∃ pr,V'=[some (.ref b),v1,v2,v3,some (.ref a),pr])∧IsBook o H' b f s p as (payAll (x.parts.take m) B)∧Fr1 o H o H'∧KD o H H') ⟨⟨_,rfl⟩,by rw [List.take_zero];exact ib,.refl,fun _ _=>rfl⟩ ?_
 rintro I hI m V' H' ⟨⟨pr,rfl⟩,ib',fr',kd'⟩
 obtain ⟨sm,hp⟩:=SameB.payAll (l:=x.parts.take m) (B:=B) fun e he=>able e (List.mem_of_mem_take he)
 refine ⟨kd' z hzd,fun hlen=>?_,fun y hy=>?_⟩
 ·rw [hlen,List.length_map,Zdh hl,List.take_length] at ib'
  exact q H' pr ib' fr' kd'
 rw [List.getElem?_map,Option.map_eq_some_iff] at hy
 obtain ⟨t,ht,rfl⟩:=hy
 obtain ⟨e,he,htd,htt⟩:=Zd1 hl ht
 have htt':H' t=some (.tuple [.str e.1,.int e.2]):=by refine rl (kd' t htd) ?_;exact htt
 have hsplit:x.parts.take (m+1)=x.parts.take m++[e]:=by refine rl List.take_add_one (rl he ?_);rfl
 refine ⟨show 5<6 by decide,?_⟩
 refine w_st fun K nx=>?_
 show wpS _ _ _ _ _ [some (.ref b),v1,v2,v3,some (.ref a),some (.ref t)] _
 refine rl Zam (rl Zau (rl Zat ?_))
 refine Zds hA ib' rfl ?_
 refine rl Zat (rl Zad ?_)
 show wpX _ (.lit (.int 0)) _ _ _ _
 refine rl Zai ?_
 refine Zi8 htt' ?_
 have hab:hs (payAll (x.parts.take m) B).aside e.1=true:=by refine rl (sm.ah ..) ?_;exact able e (List.mem_of_getElem? he)
 refine Zeh ib' (Zep hab) ?_
 refine rl Zat (rl Zad ?_)
 show wpX _ (.lit (.int 1)) _ _ _ _
 refine rl Zai ?_
 refine Zsg htt' ?_
 refine rl Zdm (rl tsub ?_)
 refine Zds hA ib' rfl ?_
 refine rl Zat (rl Zad ?_)
 show wpX _ (.lit (.int 0)) _ _ _ _
 refine rl Zai ?_
 refine Zi8 htt' ?_
 obtain ⟨ep,hd⟩:=ib'.hs
 show match H' s with | some (.dict _ _)=>_ | _=>False
 refine rl hd ?_
 refine ⟨by refine rl Zc4 (rl sm.al ?_);exact hz,fun ep'=>nx _ _ (hI _ _ _ ⟨⟨_,rfl⟩,?_,fr'.trans (Zju (by refine rl ib'.os ?_;simp)),kd'.trans (KD.up ib'.os (by intro h;contradiction))⟩)⟩
 refine rl Zfn (rl hsplit (rl Zhd ?_))
 exact ib'.setAside ep' _
noncomputable def gainAll:List (Str×Int)→Bk→Bk
 | [],B=>B
 | e::l,B=>gainAll l { B with free:=pt B.free e.1 ((lk B.free e.1).getD 0+e.2) }
theorem Zgk {e:Str×Int}:∀ {l:List (Str×Int)} {B:Bk},gainAll (l++[e]) B = { gainAll l B with free:=pt (gainAll l B).free e.1 ((lk (gainAll l B).free e.1).getD 0+e.2) }
 | [],B=>rfl
 | _::l,B=>Zgk (l:=l)
theorem SameB.gainAll:∀ {l:List (Str×Int)} {B:Bk},(∀ e∈l,hs B.free e.1=true)→SameB B (Mine.gainAll l B)∧(Mine.gainAll l B).pacts=B.pacts
 | [],B,_=>⟨.refl,rfl⟩
 | e::l,B,h=>by
  have h0:=h e List.mem_cons_self
  have s1:SameB B { B with free:=pt B.free e.1 ((lk B.free e.1).getD 0+e.2) }:=⟨rfl,(Zek h0).1,rfl,(Zek h0).2,fun _=>rfl⟩
  obtain ⟨s2,p2⟩:=SameB.gainAll (l:=l) (B:={ B with free:=pt B.free e.1 ((lk B.free e.1).getD 0+e.2) }) fun e' he=>by refine rl (s1.fh ..) ?_;exact h e' (List.mem_cons_of_mem _ he)
  exact ⟨s1.trans s2,p2⟩
theorem Zkn {g:Gx} {V:VV} {QN:VV→Zaa→Prop} {QR:AV→Zaa→Prop} {EE:String→VV→Zaa→Prop} {v1 v2 v3 v5:Option AV} (hA:g.c.P.attrs=BK.attrs) (hmd:g.md=true) (ib:IsBook o H b f s p as B) (hj:B.pacts[j]? = some x) (ha:as[j]? = some a) (hV:V=[some (.ref b),v1,v2,v3,some (.ref a),v5]) (hz:B.free.length≤sizeLine) (able:∀ e∈x.gains,hs B.free e.1=true)
  (q:∀ H' v5',IsBook o H' b f s p as (gainAll x.gains B)→Fr1 o H o H'→KD o H H'→QN [some (.ref b),v1,v2,v3,some (.ref a),v5'] H') :
  wpS g (.for (.var 5) (.attr (.var 4) "gains") [.assign (.sub (.attr (.var 0) "free") (.sub (.var 5) (.lit (.int 0)))) (.bin .Add (.sub (.attr (.var 0) "free") (.sub (.var 5) (.lit (.int 0)))) (.sub (.var 5) (.lit (.int 1))))]) QN QR EE V H:=by
 subst hV
 refine rl Zb3 ?_
 refine ⟨hmd,?_⟩
 refine Zsh hA (ib.pact hj ha) rfl fun z ⟨hzd,ts,hts,hl⟩=>?_
 refine Ze3 (xs:=ts.map .ref) (by simp only [Zap];rw [hts]) (fun m V' H'=>(∃ pr,V'=[some (.ref b),v1,v2,v3,some (.ref a),pr])∧IsBook o H' b f s p as (gainAll (x.gains.take m) B)∧Fr1 o H o H'∧KD o H H') ⟨⟨_,rfl⟩,by rw [List.take_zero];exact ib,.refl,fun _ _=>rfl⟩ ?_
 rintro I hI m V' H' ⟨⟨pr,rfl⟩,ib',fr',kd'⟩
 obtain ⟨sm,hp⟩:=SameB.gainAll (l:=x.gains.take m) (B:=B) fun e he=>able e (List.mem_of_mem_take he)
 refine ⟨kd' z hzd,fun hlen=>?_,fun y hy=>?_⟩
 ·rw [hlen,List.length_map,Zdh hl,List.take_length] at ib'
  exact q H' pr ib' fr' kd'
 rw [List.getElem?_map,Option.map_eq_some_iff] at hy
 obtain ⟨t,ht,rfl⟩:=hy
 obtain ⟨e,he,htd,htt⟩:=Zd1 hl ht
 have htt':H' t=some (.tuple [.str e.1,.int e.2]):=by refine rl (kd' t htd) ?_;exact htt
 have hsplit:x.gains.take (m+1)=x.gains.take m++[e]:=by refine rl List.take_add_one (rl he ?_);rfl
 refine ⟨show 5<6 by decide,?_⟩
 refine w_st fun K nx=>?_
 show wpS _ _ _ _ _ [some (.ref b),v1,v2,v3,some (.ref a),some (.ref t)] _
 refine rl Zam (rl Zau (rl Zat ?_))
 refine Zcs hA ib' rfl ?_
 refine rl Zat (rl Zad ?_)
 show wpX _ (.lit (.int 0)) _ _ _ _
 refine rl Zai ?_
 refine Zi8 htt' ?_
 have hab:hs (gainAll (x.gains.take m) B).free e.1=true:=by refine rl (sm.fh ..) ?_;exact able e (List.mem_of_getElem? he)
 refine Zc8 ib' (Zep hab) ?_
 refine rl Zat (rl Zad ?_)
 show wpX _ (.lit (.int 1)) _ _ _ _
 refine rl Zai ?_
 refine Zsg htt' ?_
 refine rl Zct (rl tsub ?_)
 refine Zcs hA ib' rfl ?_
 refine rl Zat (rl Zad ?_)
 show wpX _ (.lit (.int 0)) _ _ _ _
 refine rl Zai ?_
 refine Zi8 htt' ?_
 obtain ⟨ep,hd⟩:=ib'.hf
 show match H' f with | some (.dict _ _)=>_ | _=>False
 refine rl hd ?_
 refine ⟨by refine rl Zc4 (rl sm.fl ?_);exact hz,fun ep'=>nx _ _ (hI _ _ _ ⟨⟨_,rfl⟩,?_,fr'.trans (Zju (by refine rl ib'.of ?_;simp)),kd'.trans (KD.up ib'.of (by intro h;contradiction))⟩)⟩
 refine rl Zfn (rl hsplit (rl Zgk ?_))
 exact ib'.setFree ep' _
theorem Zth {g:Gx} {V:VV} {QN:VV→Zaa→Prop} {QR:AV→Zaa→Prop} {EE:String→VV→Zaa→Prop} {i:Nat} {st:Sta} {rest:List S} (hA:g.c.P.attrs=BK.attrs) (ib:IsBook o H b f s p as B) (hj:B.pacts[j]? = some x) (ha:as[j]? = some a) (hV:V[i]? = some (some (.ref a)))
  (q:∀ o' H',IsBook o' H' b f s p as { B with pacts:=B.pacts.set j { x with inside:=[],state:=st } }→Fr1 o H o' H'→wpSs g rest QN QR EE V H'):wpSs g (.assign (.attr (.var i) "inside") (.dict [] [])::.assign (.attr (.var i) "state") (.lit (.str st.str))::rest) QN QR EE V H:=by
 have hC:∀ n,BK.attrs.contains ("Pact",n)=true→g.c.P.attrs.contains ("Pact",n)=true:=fun n h=>by refine rl hA ?_;exact h
 obtain ⟨h0,pa,ga,ne,ins,ep,h,h1,h2,h3,h4,h5,h6⟩:=ib.pact hj ha
 refine w_st fun K nx=>?_
 dsimp only [Zam,Zaq]
 intro w hw
 have haw:a≠w:=fun e=>by rw [e,hw] at h;contradiction
 refine st_a hV (hC _ rfl) (by refine rl (Zab haw) ?_;exact h) (by exact (show 7≤100 by decide)) (nx _ _ ?_)
 refine w_st fun K nx=>?_
 dsimp only [Zam,Zai]
 refine st_a hV (hC _ rfl) Zac (by exact (show 7≤100 by decide)) (nx _ _ ?_)
 have kb0:KB (fun _=>True) o (fun y=>if y=w then some (.inside j) else o y) H (up H w (.dict 0 [])):=fun y r v _ hr hv _=>by
  have:y≠w:=fun e=>by rw [e,hw] at hv;contradiction
  exact ⟨(if_neg this).trans hr,by refine rl (Zab this) ?_;exact hv⟩
 have ib1:=ib.congr kb0
 generalize ho:(fun y=>if y=w then some (Role.inside j) else o y)=o' at kb0 ib1
 have hoa:o' a=some (.pact j):=by refine rl ho.symm ?_;exact (if_neg haw).trans h0
 have how:o' w=some (.inside j):=by refine rl ho.symm ?_;exact if_pos rfl
 have kb1:∀ {X:Zaa} {y:AObj},KB (fun r=>r≠.pact j∧r≠.inside j) o' o' X (up X a y):=Zjc fun r hr=>by rw [hoa] at hr;obtain rfl:=Option.some.inj hr;exact fun z=>z.1 rfl
 have kbd:∀ {X:Zaa} {y:AObj},KB (fun r=>r = .data) o' o' X (up X a y):=Zjc fun r hr=>by rw [hoa] at hr;cases hr;exact fun z=>by cases z
 have kb0':KB (fun r=>r = .data) o o' H (up H w (.dict 0 [])):=fun y r v _ hr hv hb=>kb0 y r v trivial hr hv hb
 refine q o' _ (ib1.setPact hj ha (fun y r v hr ho hv hb=>kb1 y r v hr ho (kb1 y r v hr ho hv hb).2 hb) (⟨hoa,pa,ga,ne,w,0,Zac,((h1.congr kb0' rfl).congr kbd rfl).congr kbd rfl,((h2.congr kb0' rfl).congr kbd rfl).congr kbd rfl,(kb0' ne _ _ rfl h3 h4 rfl).1,?_,how,?_⟩:IsPact o' _ j a { x with inside:=[],state:=st }) rfl) ⟨fun y v hy ho'=>?_,fun y h=>Zdn (Zdn (Zdn h))⟩
 ·have:=kb0' ne _ _ rfl h3 h4 rfl
  have hna:ne≠a:=Zcn this.1 hoa (by intro z;contradiction)
  refine rl (Zab hna) (rl (Zab hna) ?_);exact this.2
 ·refine rl (Zab haw.symm) (rl (Zab haw.symm) (rl Zac ?_));rfl
 ·have hyw:y≠w:=fun e=>by rw [e,hw] at hy;contradiction
  have hya:y≠a:=fun e=>by rw [e,h0] at ho';contradiction
  exact ⟨by refine rl (Zab hya) (rl (Zab hya) (rl (Zab hyw) ?_));exact hy,by refine rl ho.symm ?_;exact (if_neg hyw).trans ho'⟩
end
noncomputable def Zl1 (B:Bk) (j:Nat) (x:Pc):Bk:={ gainAll x.gains (payAll x.parts B) with pacts:=B.pacts.set j { x with inside:=[],state:=.dn } }
noncomputable def Zcu:List Str→Bk→Bk
 | [],B=>B
 | k::r,B=>Zcu r (match pAt B.pacts k with | some e=>Zl1 B e.1 e.2 | none=>B)
theorem Zhm:∀ {ps:List Pc} {j:Nat} {x x':Pc},ps[j]? = some x→x'.name=x.name→(ps.set j x').map (·.name)=ps.map (·.name)
 | q::r,0,x,x',h,e=>by obtain rfl:=Option.some.inj h;simp [e]
 | q::r,j+1,x,x',h,e=>by exact rl List.set_cons_succ (rl List.map_cons (rl List.map_cons (rl (Zhm (ps:=r) (j:=j) h e) rfl)))
 | [],_,_,_,h,_=>by contradiction
theorem Zjb:∀ {ps:List Pc} {k:Str},k∈ps.map (·.name)→∃ e,pAt ps k=some e
 | q::r,k,h=>by
  unfold pAt
  by_cases e:q.name=k
  ·exact ⟨_,if_pos e⟩
  ·refine rl (if_neg e) ?_
   rw [List.map_cons] at h
   obtain ⟨w,hw⟩:=Zjb (ps:=r) ((List.mem_cons.mp h).resolve_left fun z=>e z.symm)
   refine rl hw ?_;exact ⟨_,rfl⟩
theorem BkOK.ends {B:Bk} {j:Nat} {x:Pc} (ok:BkOK B) (hj:B.pacts[j]? = some x):SameB B (gainAll x.gains (payAll x.parts B))∧(gainAll x.gains (payAll x.parts B)).pacts=B.pacts∧SameB B (payAll x.parts B)∧(payAll x.parts B).pacts=B.pacts:=by
 obtain ⟨s1,p1⟩:=SameB.payAll (l:=x.parts) (B:=B) fun e he=>ok.both _ (ok.purse j x hj e (.inl he))
 obtain ⟨s2,p2⟩:=SameB.gainAll (l:=x.gains) (B:=payAll x.parts B) fun e he=>by refine rl (s1.fh ..) ?_;exact ok.purse j x hj e (.inr he)
 exact ⟨s1.trans s2,p2.trans p1,s1,p1⟩
theorem BkOK.done {B:Bk} {j:Nat} {x:Pc} (ok:BkOK B) (hj:B.pacts[j]? = some x):BkOK (Zl1 B j x):=by
 obtain ⟨sm,_⟩:=ok.ends hj
 refine ok.keep ⟨sm.day,sm.fl,sm.al,sm.fh,sm.ah⟩ List.length_set (fun m y hy=>?_) fun m y hy=>?_
 ·rcases Zhc hy with ⟨rfl,rfl,_⟩ | ⟨_,h⟩
  ·exact ⟨x,hj,rfl,rfl,rfl,fun k hk=>by contradiction⟩
  ·exact ⟨y,h,rfl,rfl,rfl,ok.part m y h⟩
 ·rcases Zhc hy with ⟨rfl,rfl,_⟩ | ⟨_,h⟩
  ·exact Nat.zero_le _
  ·exact (ok.inl m y h).1
inductive SetI (B:Bk) (o:Addr→Option Role) (H:Zaa) (b f s p:Addr) (as:List Addr) (g:List Str) (v1:Option AV) (z:Addr) (m:Nat) (V':VV) (H':Zaa):Prop
 | mk (o':Addr→Option Role) (B':Bk) (p3 p4 p5:Option AV) (hV:V'=[some (.ref b),v1,some (.ref z),p3,p4,p5]) (ib:IsBook o' H' b f s p as B') (ok:BkOK B') (fr:Fr1 o H o' H') (hz:H' z=some (.list (txs g))) (zo:o' z=none) (hn:B'.pacts.map (·.name)=B.pacts.map (·.name)) (hR:Zcu (g.drop m) B'=Zcu g B):SetI B o H b f s p as g v1 z m V' H'
section
variable {c:Cx} {P:Pg} (G:Gd c P) (U:HasP P) {n:Nat} {md:Bool} {Q:AV→Zaa→Prop} {E:String→Zaa→Prop} {H:Zaa} {o:Addr→Option Role} {b f s p a:Addr} {as:List Addr} {B:Bk} {j:Nat} {x:Pc}
theorem IsBook.extZ {H':Zaa} {z:Addr} (ib:IsBook o H b f s p as B) (hE:Ext H H') (hz:H z=none):∃ o',IsBook o' H' b f s p as B∧Fr1 o H o' H'∧o' z=none :=
 ⟨fun a=>if a=z then none else o a,ib.congr fun a r v _ hr hv _=>⟨(if_neg (fun e=>by rw [e,hz] at hv;contradiction)).trans hr,hE a v hv⟩,⟨fun a v h k=>⟨hE a v h,(if_neg (fun e=>by rw [e,hz] at h;contradiction)).trans k⟩,fun a h=>hE.none h⟩,if_pos rfl⟩
include G U
set_option tactic.hygienic true in
theorem Zo0 (hU:P.fns.lookup "Book.settle" = some BK.f_Book_settle) (hU0:P.fns.lookup "Book.standing" = some BK.f_Book_standing) (hU1:P.fns.lookup "Pact.is_full" = some BK.f_Pact_is_full) (g1:P.fns.lookup "greatest" = some BK.f_greatest) (g2:P.fns.lookup "are_met" = some BK.f_are_met) (g3:P.fns.lookup "table_of" = some BK.f_table_of)
  (ib:IsBook o H b f s p as B) (ok:BkOK B) (nd:(B.pacts.map (·.name)).Nodup)
  (q:∀ z g o' H',H z=none→o' z=none→H' z=some (.list (txs g))→Grt (Zca B.pacts) (ndB B) (Zh4 B.pacts) g→IsBook o' H' b f s p as (Zcu g B)→Fr1 o H o' H'→Q (.ref z) H'):CallOK c (n+3) true "Book.settle" [.ref b] Q E H:=by
 refine G.call (F:=BK.f_Book_settle) hU rfl ?_
 have hA:c.P.attrs=BK.attrs:=by exact rl G.hP (rl U.a.attrs rfl)
 have hM:c.P.meths=BK.meths:=by exact rl G.hP (rl U.a.meths rfl)
 refine w_st fun K nx=>?_
 dsimp only [Zam]
 refine Zbi hM (by decide) (by decide) ib rfl ?_
 refine Zk9 G U hU0 hU1 ib ok nd fun zt r d e o1 H1 hzt zto ro dO eo ht hr hd he ib1 f1=>?_
 refine ⟨show 1<6 by decide,nx _ _ ?_⟩
 refine w_st fun K nx=>?_
 show wpS _ _ _ _ _ [some (.ref b),some (.ref zt),none,none,none,none] _
 dsimp only [Zam,tv,List.length_cons,List.length_nil,Nat.reduceAdd,List.set_cons_succ,List.set_cons_zero,Zao,Zae,Zah,Zat,Zai,Zad,List.getElem?_cons_succ,v_0]
 refine Ze9 (v:=.ref r) ht (by decide) rfl (by simp) ?_
 refine Ze9 (v:=.ref d) ht (by decide) rfl (by simp) ?_
 refine Ze9 (v:=.ref e) ht (by decide) rfl (by simp) ?_
 have lp:=ok.len
 refine Zly G g1 g2 g3 hr hd he (Nat.le_trans Zht (by exact Nat.le_trans (by assumption) (by decide))) (Nat.le_trans Zkt (by exact Nat.le_trans (by assumption) (by decide))) fun z H2 g hE hz0 hz2 hg=>?_
 obtain ⟨o2,ib2,f2,zo2⟩:=ib1.extZ hE hz0
 have fr2:=f1.trans f2
 have hgn:∀ k∈g,k∈B.pacts.map (·.name):=fun k hk=>by
  have:=hg.sub.subset hk
  unfold Zca at this
  obtain ⟨y,h1,h2⟩:=List.mem_map.mp this
  refine rl h2.symm ?_;exact List.mem_map_of_mem (List.mem_filter.mp h1).1
 refine ⟨by decide,nx _ _ ?_⟩
 refine w_st fun K nx=>?_
 dsimp only [Zb3,Zad]
 refine ⟨rfl,?_⟩
 show WFor _ _ (.ref z) _ _
 refine Ze3 (xs:=txs g) (by simp only [Zap];exact rl hz2 rfl) (SetI B o H b f s p as g (some (.ref zt)) z) ⟨o2,B,none,none,none,rfl,ib2,ok,fr2,hz2,zo2,rfl,rfl⟩ ?_
 rintro I hI m V' H' ⟨o',B',p3,p4,p5,rfl,ib',ok',fr',hz',zo',hn',hR'⟩
 refine ⟨by show H' z=_;exact rl hz' (rl hz2 rfl),fun hm=>?_,fun y hy=>?_⟩
 ·rw [Zaj] at hm
  rw [hm,List.drop_length] at hR'
  exact nx _ _ (q z g o' H' (f1.gr z hz0) zo' hz' hg (hR'▸ib') fr')
 obtain ⟨k,rfl,hk⟩:=Zix hy
 have hdrop:g.drop m=k::g.drop (m+1):=by
  obtain ⟨hlt,hee⟩:=List.getElem?_eq_some_iff.mp hk
  refine rl hee.symm ?_;exact List.drop_eq_getElem_cons hlt
 obtain ⟨w,hw⟩:=Zjb (ps:=B'.pacts) (k:=k) (by refine rl hn' ?_;exact hgn k (List.mem_of_getElem? hk))
 obtain ⟨j,x⟩:=w
 have hj:=(Zbb hw).1
 rw [hdrop,Zcu,hw] at hR'
 obtain ⟨a,ha,_⟩:=Zcw ib'.ps hj
 obtain ⟨s2,q2,s1,q1⟩:=ok'.ends hj
 refine ⟨show 3<6 by decide,?_⟩
 refine w_st fun K2 nx2=>?_
 dsimp only [Zam,Zat]
 refine Zcr hA ib' rfl ?_
 refine Zfl ib' hw fun a' ha' _=>?_
 rw [ha] at ha';obtain rfl:=Option.some.inj ha'
 refine ⟨show 4<6 by decide,nx2 _ _ ?_⟩
 refine w_st fun K2 nx2=>?_
 refine Zlg hA rfl ib' hj ha rfl ok'.sz.2 (fun e he=>ok'.both _ (ok'.purse j x hj e (.inl he))) fun H3 v5 ib3 f3 _=>nx2 _ _ ?_
 refine w_st fun K2 nx2=>?_
 refine Zkn hA rfl ib3 (by refine rl (q1 ..) ?_;exact hj) ha rfl (by refine rl (s1.fl ..) ?_;exact ok'.sz.1) (fun e he=>by refine rl (s1.fh ..) ?_;exact ok'.purse j x hj e (.inr he)) fun H4 v5' ib4 f4 _=>nx2 _ _ ?_
 refine Zth (i:=4) (st:=.dn) hA ib4 (by refine rl q2 ?_;exact hj) ha rfl fun o5 H5 ib5 f5=>?_
 rw [q2] at ib5
 have f35:=(f3.trans f4).trans f5
 obtain ⟨hz5,zo5⟩:=f35.old _ _ hz' zo'
 exact hI _ _ _ ⟨o5,Zl1 B' j x,_,_,_,rfl,ib5,ok'.done hj,fr'.trans f35,hz5,zo5,(Zhm (x':={ x with inside:=[],state:=.dn }) hj rfl).trans hn',hR'⟩
end
end Mine
end
section
namespace Mine
abbrev pairsH (H:Zaa) (ts:List Addr) (l:List (AV×AV)):Prop:=pairsG (fun _=>none) H ts l
theorem pairsH.in {o:Addr→Option Role} {H H₂:Zaa} {b:Addr} {B:Bk} (hb:H b=some (.book B)) (hold:∀ a x,H a=some x→a≠b→H₂ a=some x∧o a=none):∀ {ts:List Addr} {l:List (AV×AV)},pairsH H ts l→pairsG o H₂ ts l
 | [],[],_=>trivial
 | t::ts,e::l,h=>by
  have hne:t≠b:=fun z=>by have:=h.1.2.1;rw [z,hb] at this;cases this
  exact ⟨⟨(hold t _ h.1.2.1 hne).2,(hold t _ h.1.2.1 hne).1,h.1.2.2⟩,pairsH.in hb hold h.2⟩
 | [],_::_,h=>h.elim
 | _::_,[],h=>h.elim
section
variable {c:Cx} {P:Pg} (G:Gd c P) (U:HasP P) {n:Nat} {md:Bool} {Q:AV→Zaa→Prop} {E:String→Zaa→Prop} {H:Zaa} {b:Addr} {B:Bk}
theorem Zlt {a:Addr} {xs:List AV} (hb:H b=some (.book B)) (h:H a=some (.list xs)):a≠b:=fun z=>by rw [z,hb] at h;cases h
include G U
theorem Zrl {v w:AV} (hU:P.fns.lookup "Book.set_aside" = some BK.f_Book_set_aside) (hU2:P.fns.lookup "Pact.part_of" = some BK.f_Pact_part_of) (hb:H b=some (.book B)) (kv:Kn H v) (kw:Kn H w) (ok:BkOK B) (q:Ends (Zc6 B v w) (fun B'=>Q .none (up H b (.book B'))) (fun cl=>E cl H)):CallOK c (n+4) true "Book.set_aside" [.ref b,v,w] Q E H:=by
 refine Zbo hb fun H₂ o f s p as ib hold=>Zrk G U hU hU2 ib (kv.open hb hold) (kw.open hb hold) ok ?_
 revert q
 cases Zc6 B v w with
 | ok B'=>exact fun q H' ib' fr=>⟨o,f,s,p,as,B',ib',fr,.inl ⟨(fun _ h=>by contradiction),q⟩⟩
 | error cl=>exact fun q=>⟨o,f,s,p,as,B,ib,.refl,by refine rl (Zd7 hb) ?_;exact q⟩
theorem Zyz {v w:AV} (hU:P.fns.lookup "Book.draw_back" = some BK.f_Book_draw_back) (hU2:P.fns.lookup "Pact.part_of" = some BK.f_Pact_part_of) (hU3:P.fns.lookup "Book.given_back" = some BK.f_Book_given_back) (hb:H b=some (.book B)) (kv:Kn H v) (kw:Kn H w) (ok:BkOK B) (q:Ends (Zff B v w) (fun B'=>Q .none (up H b (.book B'))) (fun cl=>E cl H)):CallOK c (n+4) true "Book.draw_back" [.ref b,v,w] Q E H:=by
 refine Zbo hb fun H₂ o f s p as ib hold=>Ztl G U hU hU2 hU3 ib (kv.open hb hold) (kw.open hb hold) ok ?_
 revert q
 cases Zff B v w with
 | ok B'=>exact fun q H' ib' fr=>⟨o,f,s,p,as,B',ib',fr,.inl ⟨(fun _ h=>by contradiction),q⟩⟩
 | error cl=>exact fun q=>⟨o,f,s,p,as,B,ib,.refl,by refine rl (Zd7 hb) ?_;exact q⟩
theorem Zwz {v last:AV} {pl gl nl:Addr} {ts us:List Addr} {pL gL:List (AV×AV)} {nL:List AV} (hU:P.fns.lookup "Book.tell" = some BK.f_Book_tell) (hU1:P.fns.lookup "Book.pairs_of" = some BK.f_Book_pairs_of) (hU2:P.fns.lookup "Book.needs_of" = some BK.f_Book_needs_of) (hU3:P.fns.lookup "Pact.__init__" = some BK.f_Pact___init__) (hcl:c.P.classes.contains "Pact" = true)
  (hb:H b=some (.book B)) (ok:BkOK B) (kv:Kv v) (kl:Kv last) (hp:H pl=some (.list (ts.map .ref))) (hpg:pairsH H ts pL) (hg:H gl=some (.list (us.map .ref))) (hgg:pairsH H us gL) (hn:H nl=some (.list nL)) (hng:∀ v∈nL,Kv v) (l1:pL.length≤1000) (l2:gL.length≤1000) (l3:nL.length≤1000)
  (q:Ends (Znb B v pL gL nL last) (fun B'=>Q .none (up H b (.book B'))) (fun cl=>E cl H)):CallOK c (n+4) true "Book.tell" [.ref b,v,.ref pl,.ref gl,.ref nl,last] Q E H:=by
 refine Zbo hb fun H₂ o f s p as ib hold=>?_
 obtain ⟨hp',hpo⟩:=hold _ _ hp (Zlt hb hp)
 obtain ⟨hg',hgo⟩:=hold _ _ hg (Zlt hb hg)
 obtain ⟨hn',hno⟩:=hold _ _ hn (Zlt hb hn)
 refine Zrx G U hU hU1 hU2 hU3 hcl ib ok kv kl hp' hpo (hpg.in hb hold) hg' hgo (hgg.in hb hold) hn' hno hng l1 l2 l3 ?_
 revert q
 cases Znb B v pL gL nL last with
 | ok B'=>exact fun q o' H' as' ib' fr=>⟨o',f,s,p,as',B',ib',fr,.inl ⟨(fun _ h=>by contradiction),q⟩⟩
 | error cl=>exact fun q o' H' ib' fr=>⟨o',f,s,p,as,B,ib',fr,by refine rl (Zd7 hb) ?_;exact q⟩
theorem Zz7 {w:AV} (hU0:P.fns.lookup "Book.call_off" = some BK.f_Book_call_off) (hU:P.fns.lookup "Book.dragged" = some BK.f_Book_dragged) (hU1:P.fns.lookup "Book.first_dragged" = some BK.f_Book_first_dragged) (hU2:P.fns.lookup "Book.fell" = some BK.f_Book_fell) (hU3:P.fns.lookup "Book.given_back" = some BK.f_Book_given_back)
  (hb:H b=some (.book B)) (ok:BkOK B) (kw:Kn H w) (q:match offQ B w with | .ok r=>∀ z,H z=none→Q (.ref z) (up (up H b (.book r.1)) z (.list (txs r.2))) | .error cl=>E cl H):CallOK c (n+4) true "Book.call_off" [.ref b,w] Q E H:=by
 refine Zbo hb fun H₂ o f s p as ib hold=>Zvk G U hU0 hU hU1 hU2 hU3 ib ok (kw.open hb hold) ?_
 revert q
 cases offQ B w with
 | ok r=>exact fun q z o' H' hz ho hz' ib' fr=>⟨o',f,s,p,as,r.1,ib',fr,.inr ⟨z,_,rfl,Zfd G U.a hb ib hold hz,hz',ho,q z (Zfd G U.a hb ib hold hz)⟩⟩
 | error cl=>exact fun q=>⟨o,f,s,p,as,B,ib,.refl,by refine rl (Zd7 hb) ?_;exact q⟩
theorem Zr5 (hU:P.fns.lookup "Book.settle" = some BK.f_Book_settle) (hU0:P.fns.lookup "Book.standing" = some BK.f_Book_standing) (hU1:P.fns.lookup "Pact.is_full" = some BK.f_Pact_is_full) (g1:P.fns.lookup "greatest" = some BK.f_greatest) (g2:P.fns.lookup "are_met" = some BK.f_are_met) (g3:P.fns.lookup "table_of" = some BK.f_table_of)
  (hb:H b=some (.book B)) (ok:BkOK B) (nd:(B.pacts.map (·.name)).Nodup) (q:∀ z g,H z=none→Grt (Zca B.pacts) (ndB B) (Zh4 B.pacts) g→Q (.ref z) (up (up H b (.book (Zcu g B))) z (.list (txs g)))):CallOK c (n+3) true "Book.settle" [.ref b] Q E H:=by
 refine Zbo hb fun H₂ o f s p as ib hold=>Zo0 G U hU hU0 hU1 g1 g2 g3 ib ok nd fun z g o' H' hz ho hz' hg ib' fr=>?_
 exact ⟨o',f,s,p,as,_,ib',fr,.inr ⟨z,_,rfl,Zfd G U.a hb ib hold hz,hz',ho,q z g (Zfd G U.a hb ib hold hz) hg⟩⟩
theorem Zuz {v:AV} (hU:P.fns.lookup "Book.state_of" = some BK.f_Book_state_of) (hb:H b=some (.book B)) (kv:Kn H v) (q:match Zbl B v with | some (j,x)=>Q (.str x.state.str) H | none=>E "NoPact" H):CallOK c (n+3) true "Book.state_of" [.ref b,v] Q E H:=by
 refine Zbo hb fun H₂ o f s p as ib hold=>Zj1 G U hU ib (kv.open hb hold) ?_
 revert q
 cases Zbl B v with
 | some e=>exact fun q=>⟨o,f,s,p,as,B,ib,.refl,.inl ⟨(fun _ h=>by contradiction),by refine rl (Zd7 hb) ?_;exact q⟩⟩
 | none=>exact fun q=>⟨o,f,s,p,as,B,ib,.refl,by refine rl (Zd7 hb) ?_;exact q⟩
theorem Zrs {v:AV} (hU:P.fns.lookup "Book.why_not" = some BK.f_Book_why_not) (hb:H b=some (.book B)) (kv:Kn H v) (hn:Zbl B v=none) (q:E "NoPact" H):CallOK c (n+3) true "Book.why_not" [.ref b,v] Q E H:=by
 refine Zbo hb fun H₂ o f s p as ib hold=>?_
 refine G.call (F:=BK.f_Book_why_not) hU rfl ?_
 have hM:c.P.meths=BK.meths:=by exact rl G.hP (rl U.a.meths rfl)
 refine w_st fun K nx=>?_
 dsimp only [Zar]
 refine Zbi hM (by decide) (by decide) ib rfl ?_
 refine Zc3 G U ib (kv.open hb hold) ?_
 refine rl hn ?_
 exact ⟨o,f,s,p,as,B,ib,.refl,by refine rl (Zd7 hb) ?_;exact q⟩
end
end Mine
end
section
namespace Mine
noncomputable def Zs4 (d:Int) (x:Pc):Bool:=x.state==.opn&&decide (x.last<d)
noncomputable def late (d:Int):Nat→Bk→Bk×List Str
 | 0,B=>(B,[])
 | m+1,B=>match (late d m B).1.pacts[m]? with
  | some x=>if Zs4 d x then (Zd2 (late d m B).1 m x,(late d m B).2++[x.name]) else late d m B
  | none=>late d m B
theorem Zuk {d:Int} {m:Nat} {B:Bk} {x:Pc} (h:(late d m B).1.pacts[m]? = some x):late d (m+1) B=if Zs4 d x then (Zd2 (late d m B).1 m x,(late d m B).2++[x.name]) else late d m B:=by
 conv=>lhs;unfold late
 exact rl h rfl
theorem Zyb {d:Int} {m:Nat} {B:Bk} (h:(late d m B).1.pacts[m]? = none):late d (m+1) B=late d m B:=by
 conv=>lhs;unfold late
 exact rl h rfl
theorem Zvv {d:Int} {m:Nat} {B:Bk}:late d (m+1) B=late d m B∨∃ x,(late d m B).1.pacts[m]? = some x∧Zs4 d x=true∧late d (m+1) B=(Zd2 (late d m B).1 m x,(late d m B).2++[x.name]):=by
 cases h:(late d m B).1.pacts[m]? with
 | none=>exact .inl (Zyb h)
 | some x =>
  cases hx:Zs4 d x with
  | false=>exact .inl (by exact rl (Zuk h) (rl hx (rl (if_neg Bool.false_ne_true) rfl)))
  | true=>exact .inr ⟨x,rfl,hx,by exact rl (Zuk h) (rl (if_pos hx) rfl)⟩
noncomputable def Zz1 (B:Bk) (i:Int):Bk×List Str:=Zcg B.pacts.length (late (B.day+i) B.pacts.length { B with day:=B.day+i }).1 (late (B.day+i) B.pacts.length { B with day:=B.day+i }).2
noncomputable def Zvh (B:Bk) (v:AV):Except String (Bk×List Str):=if Zjr v=true∧¬ Zgp v<1 then .ok (Zz1 B (Zgp v)) else .error "NoDay"
theorem BkOK.day {B:Bk} (ok:BkOK B) (d:Int):BkOK { B with day:=d }:=⟨ok.sz,ok.both,ok.len,ok.part,ok.inl,ok.purse⟩
section
variable {c:Cx} {P:Pg} (G:Gd c P) (U:HasP P) {n:Nat} {md:Bool} {Q:AV→Zaa→Prop} {E:String→Zaa→Prop} {H:Zaa} {o:Addr→Option Role} {b f s p a:Addr} {as:List Addr} {B:Bk} {j:Nat} {x:Pc}
inductive Z0v (o:Addr→Option Role) (H:Zaa) (b f s p:Addr) (as:List Addr) (d:Int) (B:Bk) (v:AV) (z zv:Addr) (m:Nat) (V':VV) (H':Zaa):Prop
 | mk (o':Addr→Option Role) (pr:Option AV) (hV:V'=[some (.ref b),some v,some (.ref z),pr]) (ib:IsBook o' H' b f s p as (late d m B).1) (fr:Fr1 o H o' H') (hz:H' z=some (.list (txs (late d m B).2))) (ho:o' z=none) (hv:H' zv=some (.list (as.map .ref))) (hvo:o' zv=none) (hne:zv≠z):Z0v o H b f s p as d B v z zv m V' H'
include G U
end
end Mine
end
section
namespace Mine
noncomputable def Zes (x:Pc):List Str:=(x.parts.filter fun e=>decide (e.1∈x.inside)).map (·.1)
theorem Zdy {Q:AV→Zaa→Prop} {stp:AV→(Option AV→Zaa→Prop)→Zaa→Prop} {v:AV} {H:Zaa} {xs:List AV} (hx:Zap H v=some xs) (hl:xs.length≤sizeLine) (f:AV→Option AV)
  (hs:∀ x∈xs,∀ nx:Option AV→Zaa→Prop,nx (f x) H→stp x nx H) (q:∀ a,H a=none→Q (.ref a) (up H a (.list (xs.filterMap f)))):Zk5 Q stp v H:=by
 refine ⟨xs,hx,hl,fun k acc H'=>H'=H∧acc=(xs.take k).filterMap f,⟨rfl,rfl⟩,?_⟩
 rintro k acc H' ⟨rfl,rfl⟩
 refine ⟨?_,fun hk a ha=>?_,fun x hxk=>?_⟩
 ·cases v with
  | ref a=>exact rfl
  | _=>trivial
 ·refine rl hk (rl List.take_length ?_);exact q a ha
 ·refine hs x (List.mem_of_getElem? hxk) _ ⟨rfl,?_⟩
  refine rl (Zc1 hxk) (rl List.filterMap_append ?_)
  cases hf:f x<;>simp [hf]
section
variable {c:Cx} {P:Pg} (G:Gd c P) (U:HasP P) {n:Nat} {md:Bool} {Q:AV→Zaa→Prop} {E:String→Zaa→Prop} {H:Zaa} {o:Addr→Option Role} {b f s p a:Addr} {as:List Addr} {B:Bk} {j:Nat} {x:Pc}
noncomputable def insF (H:Zaa) (x:Pc):AV→Option AV
 | .ref t=>(match H t with
  | some (.tuple [.str k,_])=>if k∈x.inside then some (.str k) else none
  | _=>none)
 | _=>none
theorem Zms {t:Addr} {k:Str} {i:Int} (h:H t=some (.tuple [.str k,.int i])):insF H x (.ref t)=if k∈x.inside then some (.str k) else none:=by
 show (match H t with | some (.tuple [.str k,_])=>if k∈x.inside then some (AV.str k) else none | _=>none)=_
 exact rl h rfl
theorem Zmt:∀ {ts:List Addr} {l:List (Str×Int)},pairsAV o H ts l→(ts.map AV.ref).filterMap (insF H x)=txs ((l.filter fun e=>decide (e.1∈x.inside)).map (·.1))
 | [],[],_=>rfl
 | t::ts,e::l,h=>by
  refine rl List.map_cons (rl List.filterMap_cons (rl (Zms h.2.1) (rl List.filter_cons (rl (Zmt h.2.2) ?_))))
  by_cases hi:e.1∈x.inside
  ·refine rl (if_pos hi) (rl (if_pos (decide_eq_true hi)) ?_);rfl
  ·exact rl (if_neg hi) (rl (if_neg (by rw [decide_eq_false hi];exact Bool.false_ne_true)) rfl)
 | [],_::_,h=>h.elim
 | _::_,[],h=>h.elim
include G U
theorem Zn6 {v:AV} (hU:P.fns.lookup "Book.inside_of" = some BK.f_Book_inside_of) (ib:IsBook o H b f s p as B) (ok:BkOK B) (hk:Kn H v)
  (q:match Zbl B v with | some (j,x)=>∀ z,H z=none→Q (.ref z) (up H z (.list (txs (Zes x)))) | none=>E "NoPact" H):CallOK c (n+3) true "Book.inside_of" [.ref b,v] Q E H:=by
 refine G.call (F:=BK.f_Book_inside_of) hU rfl ?_
 have hA:c.P.attrs=BK.attrs:=by exact rl G.hP (rl U.a.attrs rfl)
 have hM:c.P.meths=BK.meths:=by exact rl G.hP (rl U.a.meths rfl)
 show wpSs _ _ _ _ _ [some (.ref b),some v,none] _
 refine w_st fun K nx=>?_
 refine rl Zam ?_
 refine Zbi hM (by decide) (by decide) ib rfl ?_
 refine rl Zae (rl Zad ?_)
 show wpXs _ [] _ _ _ _
 refine rl Zah ?_
 refine Zc3 G U ib hk ?_
 cases e:Zbl B v with
 | none=>rw [e] at q;exact q
 | some z =>
  obtain ⟨j,x⟩:=z
  rw [e] at q
  intro a ha ip
  have hj:=Zce e
  refine ⟨show 2<3 by decide,nx _ _ ?_⟩
  refine w_st fun K nx=>?_
  refine rl Zbh (rl Zbf ?_)
  refine ⟨rfl,?_⟩
  refine Zfr hA ip rfl fun zp ⟨hz,ts,hts,hl⟩=>?_
  refine Zdy (xs:=ts.map .ref) (by simp only [Zap,hts]) (by refine rl (List.length_map ..) (rl (Zdh hl ..) ?_);exact Nat.le_trans (ok.inl j x hj).2.1 (by decide)) (insF H x) (fun y hy nx hnx=>?_) fun w hw=>?_
  ·obtain ⟨t,ht,rfl⟩:=List.mem_map.mp hy
   obtain ⟨m,hm,rfl⟩:=List.mem_iff_getElem.mp ht
   obtain ⟨e,he,htd,htt⟩:=Zd1 hl (List.getElem?_eq_getElem hm)
   rw [Zms htt] at hnx
   refine rl (if_neg (by decide)) (rl Zbs ?_)
   refine Zmu (no:=false) (k:=e.1) hA ib hj ha ip rfl (fun Q' h=>Zi8 htt h) ?_
   refine rl Zag (rl (show ((decide (e.1∈x.inside)) != false)=decide (e.1∈x.inside) from Bool.xor_false _) ?_)
   by_cases hi:e.1∈x.inside
   ·refine rl (decide_eq_true hi) (rl (if_pos rfl) (rl Zat (rl Zad ?_)))
    rw [if_pos hi] at hnx
    exact Zi8 htt hnx
   ·refine rl (decide_eq_false hi) (rl (if_neg Bool.false_ne_true) ?_)
    rw [if_neg hi] at hnx
    exact hnx
  ·refine rl (Zmt hl) ?_
   exact q w hw
theorem Zs6 {v:AV} (hU:P.fns.lookup "Book.inside_of" = some BK.f_Book_inside_of) (hb:H b=some (.book B)) (ok:BkOK B) (kv:Kn H v)
  (q:match Zbl B v with | some (j,x)=>∀ z,H z=none→Q (.ref z) (up H z (.list (txs (Zes x)))) | none=>E "NoPact" H):CallOK c (n+3) true "Book.inside_of" [.ref b,v] Q E H:=by
 refine Zbo hb fun H₂ o f s p as ib hold=>Zn6 G U hU ib ok (kv.open hb hold) ?_
 revert q
 cases Zbl B v with
 | some e =>
  intro q z hz
  have hz0:=Zfd G U.a hb ib hold hz
  have t78:=ib.fresh hz (.list (txs (Zes e.2)))
  have ib':=t78.1
  have f':=t78.2
  exact ⟨_,f,s,p,as,B,ib',f',.inr ⟨z,_,rfl,hz0,Zac,if_pos rfl,by refine rl (Zd7 hb) ?_;exact q z hz0⟩⟩
 | none=>exact fun q=>⟨o,f,s,p,as,B,ib,.refl,by refine rl (Zd7 hb) ?_;exact q⟩
theorem Zyq {v:AV} (hU:P.fns.lookup "Book.full" = some BK.f_Book_full) (hU2:P.fns.lookup "Pact.is_full" = some BK.f_Pact_is_full) (hb:H b=some (.book B)) (ok:BkOK B) (kv:Kn H v) (q:match Zbl B v with | some (j,x)=>Q (.bool (Zck x)) H | none=>E "NoPact" H):CallOK c (n+3) true "Book.full" [.ref b,v] Q E H:=by
 refine Zbo hb fun H₂ o f s p as ib hold=>Ztc G U hU hU2 ib ok (kv.open hb hold) ?_
 revert q
 cases Zbl B v with
 | some e=>exact fun q=>⟨o,f,s,p,as,B,ib,.refl,.inl ⟨(fun _ h=>by contradiction),by refine rl (Zd7 hb) ?_;exact q⟩⟩
 | none=>exact fun q=>⟨o,f,s,p,as,B,ib,.refl,by refine rl (Zd7 hb) ?_;exact q⟩
end
end Mine
end
section
namespace Mine
theorem Zqk {l:List (Str×Int)} {k:Str}:hs l k=decide (k∈l.map (·.1)):=by
 unfold hs lk
 rw [Option.isSome_map,Bool.eq_iff_iff,List.find?_isSome]
 simp
noncomputable def Kb (b:Addr) (H H':Zaa):Prop:=∀ a x,a≠b→H a=some x→H' a=some x
theorem Kb.refl {b:Addr} {H:Zaa}:Kb b H H:=fun _ _ _ h=>h
theorem Kb.trans {b:Addr} {H H' H'':Zaa} (x:Kb b H H') (y:Kb b H' H''):Kb b H H'':=fun a o n h=>y a o n (x a o n h)
theorem Kb.ext {b:Addr} {H H':Zaa} (x:Ext H H'):Kb b H H':=fun a o _ h=>x a o h
theorem Kb.up {b:Addr} {H:Zaa} {y:AObj}:Kb b H (Mine.up H b y):=fun a o n h=>by refine rl (Zab n) ?_;exact h
section
variable {g:Gx} {V:VV} {Q:AV→Zaa→Prop} {E:String→Zaa→Prop} {H:Zaa} {b:Addr} {B:Bk}
theorem Zb6 {i:Nat} {m:String} {xs:List X} (hP:g.c.P.meths=BK.meths) (hm:BK.meths.contains ("Book",m)=true) (hn:bookAttrs.contains m=false) (hb:H b=some (.book B)) (hV:V[i]? = some (some (.ref b)))
  (q:wpXs g xs V (fun vs H=>CallOK g.c g.n g.md ("Book."++m) (.ref b::vs) Q E H) E H):wpX g (.meth (.var i) m xs) V Q E H:=by
 simp only [Za5,Zbe,Zad,hV,hb]
 exact ⟨by refine rl hP ?_;exact hm,hn,q⟩
theorem pairsH.ext {H':Zaa} (hE:Ext H H'):∀ {ts:List Addr} {l:List (AV×AV)},pairsH H ts l→pairsH H' ts l
 | [],[],_=>trivial
 | _::_,_::_,h=>⟨⟨rfl,hE _ _ h.1.2.1,h.1.2.2⟩,pairsH.ext hE h.2⟩
 | [],_::_,h=>h.elim
 | _::_,[],h=>h.elim
theorem Kv.str {s:Str} (h:s.length<2 ^ 62):Kv (.str s):=⟨(fun a h=>by cases h),fun t e=>by cases e;exact h⟩
theorem Kv.int {i:Int}:Kv (.int i):=⟨(fun a h=>by contradiction),fun t e=>by contradiction⟩
end
noncomputable def dV:AV→PyData
 | .none=>.none
 | .bool b=>.bool b
 | .int i=>.int i
 | .str s=>.str s
 | .ref _=>.none
theorem Zyy {v:AV}:PyData.eqv (dV v) (dV v)=true:=by
 cases v with
 | none=>rfl
 | bool b=>exact beq_self_eq_true b
 | int i=>exact beq_self_eq_true i
 | str s=>exact beq_self_eq_true s
 | ref a=>rfl
theorem Kv.none:Kv .none:=⟨(fun a h=>by contradiction),fun t e=>by contradiction⟩
theorem Kv.bool {b:Bool}:Kv (.bool b):=⟨(fun a h=>by contradiction),fun t e=>by contradiction⟩
end Mine
end
section
namespace Mine
noncomputable def vl (l:List (Str×Int)) (s:Str):Int:=(lk l s).getD 0
noncomputable def sAt (ps:List (Str×Int)) (s:Str):Int:=(ps.map fun e=>if e.1=s then e.2 else 0).sum
noncomputable def sm {α:Type} (l:List α) (f:α→Int):Int:=(l.map f).sum
section
variable {α:Type} {l:List α} {f g:α→Int}
theorem sm_add:sm l (fun x=>f x+g x)=sm l f+sm l g:=by
 induction l with
 | nil=>rfl
 | cons a l ih=>show f a+g a+sm l _=f a+sm l f+(g a+sm l g);refine rl ih ?_;lia
theorem Zr3 (h:∀ x∈l,f x=g x):sm l f=sm l g:=congrArg List.sum (List.map_congr_left h)
theorem Zi4 (h:∀ x∈l,f x=0):sm l f=0:=by
 induction l with
 | nil=>rfl
 | cons a l ih=>show f a+sm l f=0;refine rl (h a (.head _)) (rl (ih fun x hx=>h x (.tail _ hx)) ?_);rfl
theorem Zw6 (h:∀ x∈l,0≤f x):0≤sm l f:=by
 induction l with
 | nil=>exact Int.le_refl 0
 | cons a l ih=>exact Int.add_nonneg (h a (.head _)) (ih fun x hx=>h x (.tail _ hx))
theorem Zoy {l':List α}:sm (l++l') f=sm l f+sm l' f:=by
 induction l with
 | nil=>exact (Int.zero_add _).symm
 | cons a l ih=>show f a+sm (l++l') f=f a+sm l f+sm l' f;refine rl ih ?_;lia
theorem Zw5 {j:Nat} {x y:α} (h:l[j]? = some x):sm (l.set j y) f=sm l f - f x+f y:=by
 induction l generalizing j with
 | nil=>cases h
 | cons a l ih =>
  cases j with
  | zero=>cases h;show f y+sm l f=f x+sm l f - f x+f y;lia
  | succ j=>show f a+sm (l.set j y) f=f a+sm l f - f x+f y;refine rl (ih h) ?_;lia
theorem Zmd {ks:List Str} {k:Str} {i:Int} (nd:ks.Nodup) (hk:k∈ks):sm ks (fun s=>if k=s then i else 0)=i:=by
 induction ks with
 | nil=>cases hk
 | cons a ks ih =>
  obtain ⟨h1,h2⟩:=List.nodup_cons.mp nd
  show (if k=a then i else 0)+sm ks _=i
  by_cases e:k=a
  ·refine rl (if_pos e) (rl (Zi4 fun x hx=>if_neg fun q=>h1 (by rw [← e,q];exact hx)) ?_);exact Int.add_zero i
  ·refine rl (if_neg e) (rl (ih h2 ((List.mem_cons.mp hk).resolve_left e)) ?_);exact Int.zero_add i
end
theorem Zd8 {e:Str×Int} {ps:List (Str×Int)} {s:Str}:sAt (e::ps) s=(if e.1=s then e.2 else 0)+sAt ps s:=rfl
theorem Zt4 {ps:List (Str×Int)} {s:Str} (h:s ∉ ps.map (·.1)):sAt ps s=0:=Zi4 (l:=ps) fun e he=>if_neg fun q=>h (List.mem_map.mpr ⟨e,he,q⟩)
theorem Zo4 {ps:List (Str×Int)} {s:Str} (h:∀ e∈ps,1≤e.2):0≤sAt ps s:=Zw6 (l:=ps) fun e he=>by
 have:=h e he
 split
 ·exact Int.le_trans (by decide) this
 ·exact Int.le_refl 0
theorem Zlc {ks:List Str} {ps:List (Str×Int)} (nd:ks.Nodup) (h:∀ e∈ps,e.1∈ks):sm ks (sAt ps)=sumL ps:=by
 induction ps with
 | nil=>exact Zi4 fun _ _=>rfl
 | cons e ps ih =>
  have:sm ks (sAt (e::ps))=sm ks (fun s=>if e.1=s then e.2 else 0)+sm ks (sAt ps):=sm_add
  refine rl this (rl (Zmd nd (h e (.head _))) (rl (ih fun x hx=>h x (.tail _ hx)) ?_));rfl
theorem Zec {e:Str×Int} {l:List (Str×Int)} {s:Str}:vl (e::l) s=if e.1=s then e.2 else vl l s:=by
 unfold vl;refine rl Zeq ?_;split<;>rfl
theorem Ztz {l:List (Str×Int)} (nd:(l.map (·.1)).Nodup):sm (l.map (·.1)) (vl l)=sumL l:=by
 have:∀ s∈l.map (·.1),vl l s=sAt l s:=by
  induction l with
  | nil=>exact fun s hs=>by cases hs
  | cons e l ih =>
   obtain ⟨h1,h2⟩:=List.nodup_cons.mp nd
   intro s hs
   (rw [Zec];dsimp only [Zd8])
   by_cases q:e.1=s
   ·exact rl (if_pos q ..) (rl (if_pos q ..) (rl (Zt4 (by rw [← q];exact h1) ..) (rl (Int.add_zero ..) rfl)))
   ·rw [if_neg q,if_neg q,Int.zero_add]
    exact ih h2 s ((List.mem_cons.mp hs).resolve_left fun z=>q z.symm)
 exact rl (Zr3 this) (rl (Zlc nd fun e he=>List.mem_map.mpr ⟨e,he,rfl⟩) rfl)
theorem Zvx {l:List (Str×Int)} {k:Str} {v:Int} (h:hs l k=true):(pt l k v).map (·.1)=l.map (·.1):=by
 unfold pt
 refine rl (if_pos (show (lk l k).isSome=true from h)) (rl List.map_map ?_)
 apply List.map_congr_left
 intro e _
 show (if e.1=k then (e.1,v) else e).1=e.1
 split<;>rfl
theorem Zk8 {l:List (Str×Int)} {k s:Str} {v:Int}:vl (pt l k v) s=if s=k then v else vl l s:=by
 unfold vl
 refine rl Zs3 ?_
 split<;>rfl
theorem Zwa {l l':List (Str×Int)} (h:l.map (·.1)=l'.map (·.1)) {k:Str}:hs l k=hs l' k:=by exact rl Zqk (rl Zqk (rl h rfl))
structure Dif (l l':List (Str×Int)) (d:Str→Int):Prop where
 k:l'.map (·.1)=l.map (·.1)
 v:∀ s,vl l' s=vl l s+d s
theorem Dif.refl {l:List (Str×Int)}:Dif l l fun _=>0:=⟨rfl,fun _=>(Int.add_zero _).symm⟩
theorem Dif.trans {l l' l'':List (Str×Int)} {d d':Str→Int} (a:Dif l l' d) (b:Dif l' l'' d'):Dif l l'' fun s=>d s+d' s:=⟨b.k.trans a.k,fun s=>by exact rl (b.v ..) (rl (a.v ..) (rl (Int.add_assoc ..) rfl))⟩
theorem Dif.of {l l':List (Str×Int)} {d d':Str→Int} (a:Dif l l' d) (h:∀ s,d s=d' s):Dif l l' d':=⟨a.k,fun s=>by exact rl (a.v ..) (rl (h ..) rfl)⟩
theorem Dif.pt {l:List (Str×Int)} {k:Str} {i:Int} (h:hs l k=true):Dif l (Mine.pt l k ((lk l k).getD 0+i)) fun s=>if k=s then i else 0:=⟨Zvx h,fun s=>by
 refine rl Zk8 ?_
 by_cases e:s=k
 ·refine rl (if_pos e) (rl (if_pos e.symm) (rl e ?_));rfl
 ·exact rl (if_neg e ..) (rl (if_neg fun q=>e q.symm ..) (rl (Int.add_zero ..) rfl))⟩
theorem Dif.sum {l l':List (Str×Int)} {d:Str→Int} (a:Dif l l' d) (nd:(l.map (·.1)).Nodup):sumL l'=sumL l+sm (l.map (·.1)) d:=by
 refine rl (Eq.symm (Ztz nd)) (rl (Eq.symm (Ztz (l:=l') (by rw [a.k];exact nd))) (rl a.k (rl sm_add.symm ?_)))
 exact Zr3 fun s _=>a.v s
theorem Dif.hs {l l':List (Str×Int)} {d:Str→Int} (a:Dif l l' d) {k:Str}:Mine.hs l' k=Mine.hs l k:=Zwa a.k
theorem Zpz {l l':List Str} (nd:l.Nodup) (h:∀ k∈l,k∈l'):l.length≤l'.length:=by
 induction l generalizing l' with
 | nil=>exact Nat.zero_le _
 | cons a l ih =>
  obtain ⟨h1,h2⟩:=List.nodup_cons.mp nd
  have ha:=h a (.head _)
  have:=ih (l':=l'.erase a) h2 fun k hk=>(List.mem_erase_of_ne (show k≠a from fun q=>h1 (q▸hk))).mpr (h k (.tail _ hk))
  rw [List.length_erase_of_mem ha] at this
  have h0:0<l'.length:=List.length_pos_of_mem ha
  show l.length+1≤l'.length
  omega
theorem Zxz {l l':List Str} (nd:l.Nodup) (h:∀ k∈l,k∈l') (hl:l'.length≤l.length) {k:Str} (hk:k∈l'):k∈l:=Classical.byContradiction fun hn=>by
 have:=Zpz (l:=k::l) (l':=l') (List.nodup_cons.mpr ⟨hn,nd⟩) fun x hx=>by
  rcases List.mem_cons.mp hx with rfl | hx
  ·exact hk
  ·exact h x hx
 have h1:l.length+1≤l'.length:=this
 lia
end Mine
end
section
namespace Mine
noncomputable def held (x:Pc):List (Str×Int):=x.parts.filter fun e=>decide (e.1∈x.inside)
noncomputable def back (x:Pc) (st:Sta):List (Str×Int):=if st = .dn then x.gains else held x
noncomputable def gone (x:Pc) (st:Sta):List (Str×Int):=if st = .dn then x.parts else held x
noncomputable def Pc.end (x:Pc) (st:Sta):Pc:={ x with inside:=[],state:=st }
structure Zl5 (B B':Bk) (j:Nat) (x:Pc) (st:Sta):Prop where
 at_:B.pacts[j]? = some x
 op:x.state = .opn
 hw:st = .fln∨st = .dn∧Zck x=true
 ps:B'.pacts=B.pacts.set j (x.end st)
 f:Dif B.free B'.free (sAt (back x st))
 a:Dif B.aside B'.aside fun s=>- sAt (gone x st) s
theorem Dif.sub {l:List (Str×Int)} {k:Str} {i:Int} (h:Mine.hs l k=true):Dif l (Mine.pt l k ((lk l k).getD 0 - i)) fun s=>- (if k=s then i else 0):=(Dif.pt (i:=- i) h).of fun s=>by split<;>rfl
theorem Zpv {e:Str×Int} {ps:List (Str×Int)} {s:Str}:- (if e.1=s then e.2 else 0) + - sAt ps s = - sAt (e::ps) s:=by (dsimp only [Zd8];exact rl Int.neg_add rfl)
theorem Ztb {ins:List Str} {l:List (Str×Int)} {B:Bk} (h:∀ e∈l,hs B.free e.1=true∧hs B.aside e.1=true):Dif B.free (Zcx ins l B).free (sAt (l.filter fun e=>decide (e.1∈ins)))∧Dif B.aside (Zcx ins l B).aside fun s=>- sAt (l.filter fun e=>decide (e.1∈ins)) s:=by
 induction l generalizing B with
 | nil=>exact ⟨.refl,.refl⟩
 | cons e l ih =>
  obtain ⟨h1,h2⟩:=h e (.head _)
  unfold Zcx
  by_cases q:e.1∈ins
  ·refine rl (if_pos q) (rl List.filter_cons (rl (if_pos (decide_eq_true q)) ?_))
   have d1:=Dif.pt (i:=e.2) h1
   have d2:=Dif.sub (i:=e.2) h2
   obtain ⟨g1,g2⟩:=ih (B:=Zjh B e.1 e.2) fun y hy=>⟨d1.hs.trans (h y (.tail _ hy)).1,d2.hs.trans (h y (.tail _ hy)).2⟩
   exact ⟨d1.trans g1,(d2.trans g2).of fun s=>Zpv⟩
  ·refine rl (if_neg q) (rl List.filter_cons (rl (if_neg (fun z=>q (of_decide_eq_true z))) ?_))
   exact ih fun y hy=>h y (.tail _ hy)
theorem Zpc:∀ {l:List (Str×Int)} {B:Bk},(∀ e∈l,hs B.aside e.1=true)→(payAll l B).free=B.free∧Dif B.aside (payAll l B).aside fun s=>- sAt l s
 | [],B,_=>⟨rfl,.refl⟩
 | e::l,B,h=>by
  have d:=Dif.sub (i:=e.2) (h e (.head _))
  obtain ⟨g1,g2⟩:=Zpc (l:=l) (B:={ B with aside:=pt B.aside e.1 ((lk B.aside e.1).getD 0 - e.2) }) fun y hy=>d.hs.trans (h y (.tail _ hy))
  exact ⟨g1,(d.trans g2).of fun s=>Zpv⟩
theorem Zmz:∀ {l:List (Str×Int)} {B:Bk},(∀ e∈l,hs B.free e.1=true)→Dif B.free (gainAll l B).free (sAt l)∧(gainAll l B).aside=B.aside
 | [],B,_=>⟨.refl,rfl⟩
 | e::l,B,h=>by
  have d:=Dif.pt (i:=e.2) (h e (.head _))
  obtain ⟨g1,g2⟩:=Zmz (l:=l) (B:={ B with free:=pt B.free e.1 ((lk B.free e.1).getD 0+e.2) }) fun y hy=>d.hs.trans (h y (.tail _ hy))
  exact ⟨d.trans g1,g2⟩
theorem Zg8 {B:Bk} {j:Nat} {x:Pc} (ok:BkOK B) (hj:B.pacts[j]? = some x) (ho:x.state = .opn):Zl5 B (Zd2 B j x) j x .fln :=
 have d:=Ztb (ins:=x.inside) (ok.giveAble hj)
 ⟨hj,ho,.inl rfl,rfl,d.1,d.2⟩
theorem Zj0 {B:Bk} {j:Nat} {x:Pc} (ok:BkOK B) (hj:B.pacts[j]? = some x) (hf:Zck x=true):Zl5 B (Zl1 B j x) j x .dn:=by
 have d1:=Zpc (l:=x.parts) (B:=B) fun e he=>(ok.giveAble hj e he).2
 have d2:=Zmz (l:=x.gains) (B:=payAll x.parts B) fun e he=>by refine rl d1.1 ?_;exact ok.purse j x hj e (.inr he)
 rw [d1.1] at d2
 exact ⟨hj,beq_iff_eq.mp (Bool.and_eq_true _ _▸hf:_∧_).1,.inr ⟨rfl,hf⟩,rfl,d2.1,by refine rl (show (Zl1 B j x).aside=(payAll x.parts B).aside from d2.2) ?_;exact d1.2⟩
theorem Zpi {x x' y:Pc} {k:Str} {ps:List Pc} {j m:Nat} (h:ps[j]? = some x) (e:x'.name=x.name) (hp:pAt ps k=some (m,y)) (hm:m≠j):pAt (ps.set j x') k=some (m,y):=by
 induction ps generalizing j m with
 | nil=>cases h
 | cons q r ih =>
  unfold pAt at hp
  cases j with
  | zero =>
   cases h
   show pAt (x'::r) k=_
   unfold pAt
   by_cases z:x.name=k
   ·rw [if_pos z] at hp;cases hp;exact absurd rfl hm
   ·rw [if_neg z] at hp
    refine rl (if_neg (by rw [e];exact z)) ?_;exact hp
  | succ j =>
   show pAt (q::r.set j x') k=_
   unfold pAt
   by_cases z:q.name=k
   ·rw [if_pos z] at hp ⊢;exact hp
   ·rw [if_neg z] at hp ⊢
    obtain ⟨⟨m',y'⟩,h1,h2⟩:=Option.map_eq_some_iff.mp hp
    cases h2
    refine rl (ih h h1 fun q=>hm (congrArg (· + 1) q)) ?_;rfl
section
variable {P:Bk→Prop} (ok:∀ {B},P B→BkOK B) (st:∀ {B B' j x},P B→Zl5 B B' j x .fln→P B')
include ok st
theorem Zks:∀ {n:Nat} {B:Bk} {l:List Str},P B→P (Zcg n B l).1
 | 0,_,_,h=>h
 | n+1,B,l,h=>by
  cases e:Zdq B with
  | none=>refine rl (Zgm e) ?_;exact h
  | some w =>
   obtain ⟨h1,h2⟩:=Zqs (m:=w.1) (x:=w.2) e
   refine rl (Zgl e) ?_
   exact Zks (st h (Zg8 (ok h) h1 (beq_iff_eq.mp (Bool.and_eq_true _ _▸h2:_∧_).1)))
theorem Zfx {B:Bk} {d:Int} (h:P B):∀ m,P (late d m B).1
 | 0=>h
 | m+1=>by
  rcases Zvv (d:=d) (m:=m) (B:=B) with e | ⟨x,hx,hl,e⟩
  ·refine rl e ?_;exact Zfx h m
  ·refine rl e ?_
   exact st (Zfx h m) (Zg8 (ok (Zfx h m)) hx (beq_iff_eq.mp (Bool.and_eq_true _ _▸hl:_∧_).1))
theorem Zpd (hd:∀ {B} d,P B→P { B with day:=d }) {B:Bk} {w:AV} {r:Bk×List Str} (h:P B) (e:Zvh B w = .ok r):P r.1:=by
 unfold Zvh at e
 split at e
 ·cases e;exact Zks ok st (Zfx ok st (hd _ h) _)
 ·contradiction
end
section
variable {P:Bk→Prop} (ok:∀ {B},P B→BkOK B) (st:∀ {B B' j x},P B→Zl5 B B' j x .dn→P B')
include ok st
theorem Zhb:∀ {g:List Str} {B:Bk},P B→g.Nodup→(∀ k∈g,∃ e:Nat×Pc,pAt B.pacts k=some e∧Zck e.2=true)→P (Zcu g B)
 | [],_,h,_,_=>h
 | k::g,B,h,nd,hf=>by
  obtain ⟨⟨j,x⟩,h1,h2⟩:=hf k (.head _)
  obtain ⟨n1,n2⟩:=List.nodup_cons.mp nd
  have hg:=Zbb h1
  unfold Zcu
  refine rl h1 ?_
  refine Zhb (st h (Zj0 (ok h) hg.1 h2)) n2 fun k' hk'=>?_
  obtain ⟨⟨m,y⟩,h3,h4⟩:=hf k' (.tail _ hk')
  refine ⟨(m,y),Zpi hg.1 rfl h3 fun q=>n1 ?_,h4⟩
  have hy:=Zbb h3
  rw [q,hg.1] at hy
  refine rl hg.2.symm (rl (Option.some.inj hy.1) (rl hy.2 ?_));exact hk'
end
theorem Ziq {ps:List Pc} (nd:(ps.map (·.name)).Nodup) {g:List Str} (hs:g.Sublist (Zca ps)):g.Nodup∧∀ k∈g,∃ e:Nat×Pc,pAt ps k=some e∧Zck e.2=true:=by
 refine ⟨(hs.trans (List.filter_sublist.map _)).nodup nd,fun k hk=>?_⟩
 obtain ⟨x,hx,rfl⟩:=List.mem_map.mp (hs.subset hk)
 obtain ⟨hx,hf⟩:=List.mem_filter.mp hx
 obtain ⟨j,hj,e⟩:=List.mem_iff_getElem.mp hx
 exact ⟨(j,x),Zdj nd (by exact rl (List.getElem?_eq_getElem hj) (rl e rfl)),hf⟩
end Mine
end
section
namespace Mine
structure PcOK (pur:List Str) (x:Pc):Prop where
 pk:(x.parts.map (·.1)).Nodup
 pm:∀ e∈x.parts,e.1∈pur∧1≤e.2
 gm:∀ e∈x.gains,e.1∈pur∧1≤e.2
 eq:sumL x.parts=sumL x.gains
 ins:∀ k∈x.inside,k∈x.parts.map (·.1)
 ind:x.inside.Nodup
 ln:x.parts.length≤8∧x.gains.length≤8∧x.needs.length≤8
 nm:isNm x.name=true
structure Inv (pur:List Str) (rs:List (Str×List (Str×Int))) (B:Bk) (tot:Int):Prop where
 nd:pur.Nodup
 pl:pur.length≤100
 fk:B.free.map (·.1)=pur
 ak:B.aside.map (·.1)=pur
 nn:∀ s,0≤vl B.free s
 ah:∀ s,vl B.aside s=sm B.pacts fun x=>sAt (held x) s
 tt:sumL B.free+sumL B.aside=tot
 pc:∀ x∈B.pacts,PcOK pur x
 nm:(B.pacts.map (·.name)).Nodup
 kp:B.pacts.map (fun x=>(x.name,x.parts))=rs
 len:B.pacts.length≤100
theorem Zl7 {l:List (Str×Int)} {s:Str} (nd:(l.map (·.1)).Nodup):vl l s=sAt l s:=by
 induction l with
 | nil=>rfl
 | cons e l ih =>
  obtain ⟨h1,h2⟩:=List.nodup_cons.mp nd
  (refine rl Zec ?_;dsimp only [Zd8])
  by_cases q:e.1=s
  ·exact rl (if_pos q ..) (rl (if_pos q ..) (rl (Zt4 (by rw [← q];exact h1) ..) (rl (Int.add_zero ..) rfl)))
  ·refine rl (if_neg q ..) (rl (if_neg q ..) (rl (Int.zero_add ..) ?_));exact ih h2
theorem Znj {l:List (Str×Int)} {ins:List Str} {s:Str}:sAt (l.filter fun e=>decide (e.1∈ins)) s=if s∈ins then sAt l s else 0:=by
 induction l with
 | nil=>show 0=if s∈ins then 0 else (0:Int);exact rl (ite_self ..) rfl
 | cons e l ih =>
  (refine rl List.filter_cons ?_;dsimp only [Zd8])
  by_cases q:e.1=s
  ·refine rl q ?_
   by_cases h:s∈ins
   ·(rw [if_pos (decide_eq_true h)];dsimp only [Zd8];rw [ih,if_pos h,if_pos h,if_pos q,if_pos rfl])
   ·exact rl (if_neg (fun z=>h (of_decide_eq_true z))) (rl ih (rl (if_neg h) (rl (if_neg h) rfl)))
  ·refine rl (if_neg q ..) (rl (Int.zero_add ..) (rl (Eq.symm (ih ..)) ?_))
   split
   ·(dsimp only [Zd8];exact rl (if_neg q ..) (rl (Int.zero_add ..) rfl))
   ·rfl
theorem Zin {x:Pc} {s:Str}:sAt (held x) s=if s∈x.inside then sAt x.parts s else 0:=Znj
section
variable {pur:List Str} {rs:List (Str×List (Str×Int))} {B B':Bk} {tot:Int} {j:Nat} {x x':Pc}
theorem Zbr {l:List (Str×Int)} (h:l.map (·.1)=pur) {k:Str}:hs l k=true↔k∈pur:=by rw [Zqk,h,decide_eq_true_eq]
theorem PcOK.hm (p:PcOK pur x):∀ e∈held x,e.1∈pur∧1≤e.2:=fun e he=>p.pm e (List.mem_filter.mp he).1
theorem PcOK.full (p:PcOK pur x) (h:Zck x=true):held x=x.parts:=by
 have hl:x.inside.length=x.parts.length:=beq_iff_eq.mp (Bool.and_eq_true _ _▸h:_∧_).2
 refine List.filter_eq_self.mpr fun e he=>decide_eq_true ?_
 exact Zxz p.ind p.ins (by refine rl (List.length_map ..) (rl (hl ..) ?_);exact Nat.le_refl _) (List.mem_map.mpr ⟨e,he,rfl⟩)
theorem Inv.at (I:Inv pur rs B tot) (hj:B.pacts[j]? = some x):PcOK pur x:=I.pc x (List.mem_of_getElem? hj)
theorem Inv.ok (I:Inv pur rs B tot):BkOK B:=by
 have l1:B.free.length=pur.length:=by exact rl (Eq.symm (I.fk ..)) (rl (List.length_map ..) rfl)
 have l2:B.aside.length=pur.length:=by exact rl (Eq.symm (I.ak ..)) (rl (List.length_map ..) rfl)
 refine ⟨⟨by refine rl l1 ?_;exact Nat.le_trans I.pl (by decide),by refine rl l2 ?_;exact Nat.le_trans I.pl (by decide)⟩,fun k hk=>(Zbr I.ak).mpr ((Zbr I.fk).mp hk),I.len,fun j x hx k hk=>?_,fun j x hx=>?_,fun j x hx e he=>?_⟩
 ·exact (Zbr rfl).mpr ((I.at hx).ins k hk)
 ·have p:=I.at hx
  have l8:(8:Nat)≤100:=by decide
  refine ⟨?_,Nat.le_trans p.ln.1 l8,Nat.le_trans p.ln.2.1 l8,Nat.le_trans p.ln.2.2 l8⟩
  have:=Zpz p.ind p.ins
  rw [List.length_map] at this
  exact Nat.le_trans this (Nat.le_trans p.ln.1 l8)
 ·refine (Zbr I.fk).mpr ?_
  rcases he with he | he
  ·exact ((I.at hx).pm e he).1
  ·exact ((I.at hx).gm e he).1
theorem Inv.an (I:Inv pur rs B tot) (s:Str):0≤vl B.aside s:=by
 refine rl (I.ah ..) ?_
 exact Zw6 fun x hx=>Zo4 fun e he=>((I.pc x hx).hm e he).2
theorem Zgx {α β:Type} {f:α→β} {l:List α} {j:Nat} {x y:α} (h:l[j]? = some x) (e:f y=f x):(l.set j y).map f=l.map f:=by
 induction l generalizing j with
 | nil=>rfl
 | cons a l ih =>
  cases j with
  | zero=>obtain rfl:=Option.some.inj h;refine rl List.set_cons_zero (rl List.map_cons (rl e ?_));rfl
  | succ j=>exact rl List.set_cons_succ (rl List.map_cons (rl List.map_cons (rl (ih h) rfl)))
theorem Inv.turn {df da:Str→Int} (I:Inv pur rs B tot) (hj:B.pacts[j]? = some x) (p':PcOK pur x') (hn:(x'.name,x'.parts)=(x.name,x.parts)) (ps:B'.pacts=B.pacts.set j x') (f:Dif B.free B'.free df) (a:Dif B.aside B'.aside da) (nn:∀ s,0≤vl B'.free s) (hd:∀ s,sAt (held x') s=sAt (held x) s+da s) (ht:sm pur df+sm pur da=0):Inv pur rs B' tot:=by
 refine ⟨I.nd,I.pl,f.k.trans I.fk,a.k.trans I.ak,nn,fun s=>?_,?_,fun y hy=>?_,by refine rl ps (rl (Zhm hj (Prod.mk.inj hn).1) ?_);exact I.nm,by refine rl ps (rl (Zgx hj hn) ?_);exact I.kp,by refine rl ps (rl List.length_set ?_);exact I.len⟩
 ·refine rl (a.v ..) (rl (I.ah ..) (rl (ps ..) (rl (Zw5 hj ..) (rl (hd ..) ?_))));lia
 ·have e1:=f.sum (by refine rl I.fk ?_;exact I.nd)
  have e2:=a.sum (by refine rl I.ak ?_;exact I.nd)
  rw [I.fk] at e1
  rw [I.ak] at e2
  have:=I.tt
  lia
 ·rw [ps] at hy
  obtain ⟨m,hm,rfl⟩:=List.mem_iff_getElem.mp hy
  rcases Zhc (List.getElem?_eq_getElem hm) with ⟨_,e,_⟩ | ⟨_,h⟩
  ·refine rl e ?_;exact p'
  ·exact I.at h
theorem Zw7 {l:List Str} {f:Str→Int}:sm l (fun s=>- f s) = - sm l f:=by
 induction l with
 | nil=>rfl
 | cons a l ih=>show - f a+sm l _ = - (f a+sm l f);exact rl ih (rl Int.neg_add rfl)
set_option tactic.hygienic true in
theorem Inv.step {st:Sta} (I:Inv pur rs B tot) (h:Zl5 B B' j x st):Inv pur rs B' tot:=by
 have p:=I.at h.at_
 have hg:gone x st=held x:=by
  unfold gone
  split
  ·rename_i e
   rcases h.hw with z | z
   ·rw [z] at e;contradiction
   ·exact (p.full z.2).symm
  ·rfl
 have hb:∀ e∈back x st,e.1∈pur∧1≤e.2:=by
  unfold back
  split
  ·exact p.gm
  ·exact p.hm
 have hs:sumL (back x st)=sumL (held x):=by
  unfold back
  split
  ·rename_i e
   refine rl hg.symm ?_;unfold gone;refine rl (if_pos e) ?_;exact p.eq.symm
  ·rfl
 refine I.turn h.at_ (x':=x.end st) ⟨p.pk,p.pm,p.gm,p.eq,(fun k hk=>by contradiction),List.nodup_nil,p.ln,p.nm⟩ rfl h.ps h.f h.a (fun s=>?_) (fun s=>?_) ?_
 ·refine rl (h.f.v ..) ?_;exact Int.add_nonneg (I.nn s) (Zo4 fun e he=>(hb e he).2)
 ·refine rl hg (rl Zin (rl (if_neg (show ¬ s∈(x.end st).inside from fun z=>by contradiction)) ?_));lia
 ·refine rl hg (rl Zw7 (rl (Zlc I.nd fun e he=>(hb e he).1) (rl (Zlc I.nd fun e he=>(p.hm e he).1) (rl hs ?_))));lia
theorem Inv.day (I:Inv pur rs B tot) (d:Int):Inv pur rs { B with day:=d } tot:=⟨I.nd,I.pl,I.fk,I.ak,I.nn,I.ah,I.tt,I.pc,I.nm,I.kp,I.len⟩
theorem Inv.pass {w:AV} {r:Bk×List Str} (I:Inv pur rs B tot) (h:Zvh B w = .ok r):Inv pur rs r.1 tot:=Zpd (P:=fun B=>Inv pur rs B tot) (fun I=>I.ok) (fun I h=>I.step h) (fun d I=>I.day d) I h
theorem Inv.settle {g:List Str} (I:Inv pur rs B tot) (h:g.Sublist (Zca B.pacts)):Inv pur rs (Zcu g B) tot :=
 have:=Ziq I.nm h
 Zhb (P:=fun B=>Inv pur rs B tot) (fun I=>I.ok) (fun I h=>I.step h) I this.1 this.2
theorem Inv.free {k:Str} {i:Int} (I:Inv pur rs B tot) (hk:k∈pur) (h0:0≤vl B.free k+i):Inv pur rs { B with free:=pt B.free k ((lk B.free k).getD 0+i) } (tot+i):=by
 have d:=Dif.pt (i:=i) ((Zbr I.fk).mpr hk)
 refine ⟨I.nd,I.pl,d.k.trans I.fk,I.ak,fun s=>?_,I.ah,?_,I.pc,I.nm,I.kp,I.len⟩
 ·show 0≤vl (pt B.free k _) s
  refine rl Zk8 ?_
  split
  ·exact h0
  ·exact I.nn s
 ·have e1:=d.sum (by refine rl I.fk ?_;exact I.nd)
  rw [I.fk,Zmd I.nd hk] at e1
  have:=I.tt
  lia
end
end Mine
end
section
namespace Mine
section
variable {pur:List Str} {rs:List (Str×List (Str×Int))} {B B':Bk} {tot:Int} {j:Nat} {x x':Pc} {v w a:AV}
theorem Inv.put (I:Inv pur rs B tot) (h:putQ B v a = .ok B'):Inv pur rs B' (tot+Zgp a):=by
 obtain ⟨hp,h⟩:=Zb5 h
 obtain ⟨ha,h⟩:=Zb5 h
 cases h
 refine I.free ((Zbr I.fk).mp (Zbd hp).2) (Int.add_nonneg (I.nn _) ?_)
 cases a with
 | int i=>exact Int.le_trans (by decide) (of_decide_eq_true ha).1
 | _=>contradiction
theorem Inv.take (I:Inv pur rs B tot) (h:Znc B v a = .ok B'):Inv pur rs B' (tot+(0 - Zgp a)):=by
 obtain ⟨hp,h⟩:=Zb5 h
 obtain ⟨hl,h⟩:=Zer (Zb5 h).2
 cases h
 refine rl (Int.zero_sub ..) ?_
 exact I.free ((Zbr I.fk).mp (Zbd hp).2) (Int.sub_nonneg.mpr (Int.not_lt.mp hl))
theorem Inv.ins {k:Str} {i:Int} {ins:List Str} (I:Inv pur rs B tot) (hj:B.pacts[j]? = some x) (hk:k∈pur) (hi:∀ s∈ins,s∈x.parts.map (·.1)) (hnd:ins.Nodup) (h0:0≤vl B.free k + - i) (hd:∀ s,(if s∈ins then sAt x.parts s else 0)=(if s∈x.inside then sAt x.parts s else 0)+if k=s then i else 0) :
  Inv pur rs { B with pacts:=B.pacts.set j { x with inside:=ins },free:=pt B.free k ((lk B.free k).getD 0 + - i),aside:=pt B.aside k ((lk B.aside k).getD 0+i) } tot:=by
 have p:=I.at hj
 refine I.turn (x':={ x with inside:=ins }) hj ⟨p.pk,p.pm,p.gm,p.eq,hi,hnd,p.ln,p.nm⟩ rfl rfl (Dif.pt ((Zbr I.fk).mpr hk)) (Dif.pt ((Zbr I.ak).mpr hk)) (fun s=>?_) (fun s=>?_) ?_
 ·show 0≤vl (pt B.free k _) s
  refine rl Zk8 ?_
  split
  ·exact h0
  ·exact I.nn s
 ·refine rl Zin (rl Zin ?_);exact hd s
 ·refine rl (Zmd I.nd hk) (rl (Zmd I.nd hk) ?_);lia
theorem Inv.aside (I:Inv pur rs B tot) (h:Zc6 B v w = .ok B'):Inv pur rs B' tot:=by
 obtain ⟨hp,h⟩:=Zb5 h
 cases hx:Zbl B w with
 | none=>rw [hx] at h;cases h
 | some jx =>
 obtain ⟨j,x⟩:=jx
 rw [hx] at h
 have hj:=Zce hx
 have p:=I.at hj
 replace h:=(Zb5 h).2
 cases hi:lk x.parts (Zax v) with
 | none=>rw [hi] at h;cases h
 | some i =>
 rw [hi] at h
 obtain ⟨hin,h⟩:=Zer h
 obtain ⟨hl,h⟩:=Zer h
 cases h
 have hv:sAt x.parts (Zax v)=i:=by refine rl (Eq.symm (Zl7 p.pk)) ?_;unfold vl;refine rl hi ?_;rfl
 have hkp:Zax v∈x.parts.map (·.1):=(Zbr rfl).mp (by unfold hs;refine rl hi ?_;rfl)
 refine I.ins hj ((Zbr I.fk).mp (Zbd hp).2) (fun s hs=>?_) ?_ (Int.sub_nonneg.mpr (Int.not_lt.mp hl)) fun s=>?_
 ·rcases List.mem_append.mp hs with hs | hs
  ·exact p.ins s hs
  ·refine rl (List.mem_singleton.mp hs) ?_;exact hkp
 ·refine List.nodup_append.mpr ⟨p.ind,List.nodup_cons.mpr ⟨List.not_mem_nil,List.nodup_nil⟩,fun a ha b hb=>?_⟩
  refine rl (List.mem_singleton.mp hb) ?_;exact fun e=>hin (e▸ha)
 ·by_cases e:Zax v=s
  ·refine rl (if_pos e) (rl e.symm (rl (if_pos (List.mem_append_right _ (.head _))) (rl (if_neg hin) (rl hv ?_))));exact (Int.zero_add _).symm
  ·refine rl (if_neg e ..) (rl (Int.add_zero ..) ?_)
   have:s∈x.inside++[Zax v]↔s∈x.inside:=⟨fun h=>(List.mem_append.mp h).resolve_right fun z=>e (List.mem_singleton.mp z).symm,fun h=>List.mem_append_left _ h⟩
   exact ite_congr (propext this) (fun _=>rfl) fun _=>rfl
theorem Inv.draw (I:Inv pur rs B tot) (h:Zff B v w = .ok B'):Inv pur rs B' tot:=by
 obtain ⟨hp,h⟩:=Zb5 h
 cases hx:Zbl B w with
 | none=>rw [hx] at h;cases h
 | some jx =>
 obtain ⟨j,x⟩:=jx
 rw [hx] at h
 have hj:=Zce hx
 have p:=I.at hj
 obtain ⟨hin,h⟩:=Zb5 (Zb5 h).2
 cases h
 have hv:(lk x.parts (Zax v)).getD 0=sAt x.parts (Zax v):=Zl7 p.pk
 have hge:0≤sAt x.parts (Zax v):=Zo4 fun e he=>(p.pm e he).2
 refine rl hv ?_
 have:=I.ins (ins:=x.inside.filter (·≠Zax v)) (i:=- sAt x.parts (Zax v)) hj ((Zbr I.fk).mp (Zbd hp).2) (fun s hs=>p.ins s (List.mem_filter.mp hs).1) (p.ind.sublist List.filter_sublist) (by refine rl (Int.neg_neg ..) ?_;exact Int.add_nonneg (I.nn _) hge) fun s=>?_
 ·rw [Int.neg_neg] at this;exact this
 ·by_cases e:Zax v=s
  ·exact rl (if_pos e ..) (rl (Eq.symm (e ..)) (rl (if_neg (show ¬ Zax v∈x.inside.filter (·≠Zax v) from fun z=>(of_decide_eq_true (List.mem_filter.mp z).2:Zax v≠Zax v) rfl) ..) (rl (if_pos hin ..) (rl (Int.add_right_neg ..) rfl))))
  ·refine rl (if_neg e ..) (rl (Int.add_zero ..) ?_)
   have:s∈x.inside.filter (·≠Zax v)↔s∈x.inside:=⟨fun h=>(List.mem_filter.mp h).1,fun h=>List.mem_filter.mpr ⟨h,decide_eq_true fun z=>e z.symm⟩⟩
   exact ite_congr (propext this) (fun _=>rfl) fun _=>rfl
structure Prs (B:Bk) (l:List (AV×AV)) (ps:List (Str×Int)):Prop where
 is:ps.map (fun e=>(AV.str e.1,AV.int e.2))=l
 nd:(ps.map (·.1)).Nodup
 mem:∀ e∈ps,hs B.free e.1=true∧1≤e.2
 len:ps.length≤8
theorem Zpf {l:List (AV×AV)} {acc r:List (Str×Int)} (nd:(acc.map (·.1)).Nodup) (h:Zfq B l acc = .ok r):∃ s,r=acc++s∧s.map (fun e=>(AV.str e.1,AV.int e.2))=l∧((acc++s).map (·.1)).Nodup∧∀ e∈s,hs B.free e.1=true∧1≤e.2:=by
 induction l generalizing acc with
 | nil=>cases h;exact ⟨[],(List.append_nil _).symm,rfl,by refine rl (List.append_nil ..) ?_;exact nd,fun e he=>by cases he⟩
 | cons p l ih =>
  obtain ⟨x,y⟩:=p
  obtain ⟨hp,h⟩:=Zb5 h
  obtain ⟨hm,h⟩:=Zer h
  obtain ⟨ha,h⟩:=Zb5 h
  cases y with
  | int i =>
   obtain ⟨hx,hk⟩:=Zbd hp
   have nd':((acc++[(Zax x,i)]).map (·.1)).Nodup:=by
    rw [List.map_append,List.nodup_append]
    refine ⟨nd,List.nodup_cons.mpr ⟨List.not_mem_nil,List.nodup_nil⟩,fun a ha b hb=>?_⟩
    refine rl (List.mem_singleton.mp (show b∈[Zax x] from hb)) ?_
    exact fun e=>hm (e▸ha)
   obtain ⟨s,rfl,h2,h3,h4⟩:=ih nd' h
   refine ⟨(Zax x,i)::s,by rw [List.append_assoc];rfl,by rw [List.map_cons,h2,← hx],by rw [List.append_assoc] at h3;exact h3,fun e he=>?_⟩
   rcases List.mem_cons.mp he with rfl | he
   ·exact ⟨hk,(of_decide_eq_true ha).1⟩
   ·exact h4 e he
  | _=>contradiction
theorem Zj7 {l:List (AV×AV)} {r:List (Str×Int)} (h:Zel B l = .ok r):Prs B l r:=by
 obtain ⟨hl,h⟩:=Zb5 h
 obtain ⟨s,rfl,h2,h3,h4⟩:=Zpf (acc:=[]) List.nodup_nil h
 rw [List.nil_append] at h3
 rw [← h2,List.length_map] at hl
 exact ⟨h2,h3,h4,hl.2⟩
theorem Zpw {k:Str} {l:List AV} {u:Unit} (h:Zfu B k l = .ok u):l.length≤8:=(Zb5 h).1
theorem Zuv {last:AV} {pL gL:List (AV×AV)} {nL:List AV} (h:Znb B v pL gL nL last = .ok B'):∃ x:Pc,B' = { B with pacts:=B.pacts++[x] }∧v = .str x.name∧pAt B.pacts x.name=none∧Prs B pL x.parts∧Prs B gL x.gains∧sumL x.parts=sumL x.gains∧x.needs.length≤8∧x.inside=[]∧x.state = .opn∧isNm x.name=true:=by
 obtain ⟨hn,h⟩:=Zb5 h
 obtain ⟨ht,h⟩:=Zer h
 obtain ⟨ps,hps,h⟩:=bnd h
 obtain ⟨gs,hgs,h⟩:=bnd h
 obtain ⟨he,h⟩:=Zer h
 obtain ⟨u,hnl,h⟩:=bnd h
 replace h:=(Zb5 h).2
 cases h
 refine ⟨_,rfl,Zd9 hn,?_,Zj7 hps,Zj7 hgs,Classical.not_not.mp he,?_,rfl,rfl,by rw [Zd9 hn] at hn;exact hn⟩
 ·cases e:pAt B.pacts (Zax v) with
  | none=>rfl
  | some z=>rw [e] at ht;exact absurd rfl ht
 ·show (nL.map Zax).length≤8
  refine rl (List.length_map ..) ?_;exact Zpw hnl
theorem Inv.tell {last:AV} {pL gL:List (AV×AV)} {nL:List AV} (I:Inv pur rs B tot) (hl:B.pacts.length<100) (h:Znb B v pL gL nL last = .ok B'):∃ k ps,v = .str k∧ps.map (fun e=>(AV.str e.1,AV.int e.2))=pL∧Inv pur (rs++[(k,ps)]) B' tot:=by
 obtain ⟨x,rfl,hv,hn,pp,gg,hs,hnl,hi,ho,hnm⟩:=Zuv h
 have h0:∀ s,sAt (held x) s=0:=fun s=>by exact rl Zin (rl hi (rl (if_neg List.not_mem_nil) rfl))
 refine ⟨x.name,x.parts,hv,pp.is,I.nd,I.pl,I.fk,I.ak,I.nn,fun s=>?_,I.tt,fun y hy=>?_,?_,by refine rl List.map_append (rl I.kp ?_);rfl,?_⟩
 ·refine rl Zoy ?_
  show _=_+(sAt (held x) s+0)
  refine rl (h0 ..) (rl (I.ah ..) ?_);exact (Int.add_zero _).symm
 ·rcases List.mem_append.mp hy with hy | hy
  ·exact I.pc y hy
  ·refine rl (List.mem_singleton.mp hy) ?_
   exact ⟨pp.nd,fun e he=>⟨(Zbr I.fk).mp (pp.mem e he).1,(pp.mem e he).2⟩,fun e he=>⟨(Zbr I.fk).mp (gg.mem e he).1,(gg.mem e he).2⟩,hs,(by refine rl hi ?_;exact fun k hk=>(by contradiction)),(by refine rl hi ?_;exact List.nodup_nil),⟨pp.len,gg.len,hnl⟩,hnm⟩
 ·refine rl List.map_append ?_
  refine List.nodup_append.mpr ⟨I.nm,List.nodup_cons.mpr ⟨List.not_mem_nil,List.nodup_nil⟩,fun a ha b hb e=>?_⟩
  rw [List.mem_singleton.mp hb] at e
  obtain ⟨z,hz⟩:=Zjb (e▸ha)
  rw [hn] at hz;contradiction
 ·refine rl List.length_append ?_;exact hl
set_option tactic.hygienic true in
theorem Inv.open (I:Inv pur rs B tot) (hp:B.pacts=[]) (hl:pur.length<100) (h:Zlj B v = .ok B'):Inv (pur++[Zax v]) rs B' tot∧B'.pacts=[]:=by
 unfold Zlj at h
 split at h
 ·split at h
  ·contradiction
  ·rename_i ht
   cases h
   have n1:Zax v ∉ pur:=fun z=>ht ((Zbr I.fk).mpr z)
   have e:∀ {l:List (Str×Int)},l.map (·.1)=pur→pt l (Zax v) 0=l++[(Zax v,0)]:=fun {l} hk=>if_neg fun z=>n1 ((Zbr hk).mp z)
   have z:∀ {l:List (Str×Int)} {s:Str},0≤vl l s→0≤vl (pt l (Zax v) 0) s:=fun h=>by
    refine rl Zk8 ?_;split
    ·exact Int.le_refl 0
    ·exact h
   refine ⟨⟨?_,by refine rl List.length_append ?_;exact hl,?_,?_,fun s=>z (I.nn s),fun s=>?_,?_,by refine rl (show ({ B with free:=pt B.free (Zax v) 0,aside:=pt B.aside (Zax v) 0 }:Bk).pacts=[] from hp) ?_;exact fun x hx=>(by contradiction),I.nm,I.kp,I.len⟩,hp⟩
   ·refine List.nodup_append.mpr ⟨I.nd,List.nodup_cons.mpr ⟨List.not_mem_nil,List.nodup_nil⟩,fun a ha b hb q=>?_⟩
    rw [List.mem_singleton.mp hb] at q
    exact n1 (q▸ha)
   ·show (pt B.free _ _).map _=_
    refine rl (e I.fk) (rl List.map_append (rl I.fk ?_));rfl
   ·show (pt B.aside _ _).map _=_
    refine rl (e I.ak) (rl List.map_append (rl I.ak ?_));rfl
   ·have:=I.ah s
    show vl (pt B.aside _ _) s=sm B.pacts _
    rw [hp] at this ⊢
    refine rl Zk8 ?_
    split
    ·rfl
    ·exact this
   ·have:=I.tt
    have s0:∀ {l:List (Str×Int)},sumL (l++[(Zax v,0)])=sumL l:=fun {l}=>(Zoy (l:=l) (f:=(·.2))).trans (Int.add_zero _)
    refine rl (e I.fk) (rl (e I.ak) (rl s0 (rl s0 ?_)));exact this
 ·contradiction
theorem inv0:Inv [] [] ⟨0,[],[],[]⟩ 0:=⟨List.nodup_nil,Nat.zero_le _,rfl,rfl,fun _=>Int.le_refl 0,fun _=>rfl,rfl,(fun x hx=>by contradiction),List.nodup_nil,rfl,Nat.zero_le _⟩
end
end Mine
end
section
namespace Mine
theorem Zol {QN:VV→Zaa→Prop} {stp:AV→(VV→Zaa→Prop)→VV→Zaa→Prop} {z:Addr} {V:VV} {H:Zaa} {m:Int} (hz:H z=some (.range 0 m)) (J:Nat→VV→Zaa→Prop) (h0:J 0 V H)
  (hs:∀ I:Nat→VV→Zaa→Prop,(∀ k V' H',J k V' H'→I k V' H')→∀ k V' H',J k V' H'→H' z=some (.range 0 m)∧(k=m.toNat→QN V' H')∧(k<m.toNat→stp (.int k) (I (k+1)) V' H')):WFor QN stp (.ref z) V H:=by
 refine Ze3 (xs:=(List.range (m - 0).toNat).map fun (k:Nat)=>AV.int (0+k)) (by simp only [Zap,hz]) J h0 fun I hI k V' H' hJ=>?_
 have t7156:=hs I hI k V' H' hJ
 have h1:=t7156.1
 have h2:=t7156.2.1
 have h3:=t7156.2.2
 have hl:((List.range (m - 0).toNat).map fun (k:Nat)=>AV.int (0+k)).length=m.toNat:=by exact rl (List.length_map ..) (rl (List.length_range ..) (rl (Int.sub_zero ..) rfl))
 refine ⟨h1.trans hz.symm,fun e=>h2 (e.trans hl),fun x hx=>?_⟩
 rw [List.getElem?_map,Option.map_eq_some_iff] at hx
 obtain ⟨j,hj,rfl⟩:=hx
 have t7158:=List.getElem?_eq_some_iff.mp hj
 have hj1:=t7158.1
 have hj2:=t7158.2
 rw [List.getElem_range] at hj2
 rw [List.length_range,Int.sub_zero] at hj1
 refine rl (Eq.symm (hj2 ..)) (rl (Int.zero_add ..) ?_)
 exact h3 hj1
set_option tactic.hygienic true in
theorem Zpg {md:Bool} {Q:AV→Zaa→Prop} {H:Zaa} {m:Int} (h0:0≤m) (h1:m≤100000) (q:∀ z H',H z=none→Ext H H'→H' z=some (.range 0 m)→Q (.ref z) H'):Zdx md .range [.int m] Q H:=by
 refine rl Zhh ?_
 exact ⟨⟨by lia,by exact Int.lt_of_le_of_lt (by assumption) (by decide)⟩,fun z hz=>q z _ hz (Ext.refl.new hz) Zac⟩
noncomputable def P2 (l:List (Str×Int)):List (AV×AV):=l.map fun e=>(.str e.1,.int e.2)
theorem Zuo {l:List (Str×Int)}:(P2 l).length=l.length:=List.length_map _
theorem pairsH.keep {H H':Zaa} (k:∀ a v,H a=some (.tuple v)→H' a=some (.tuple v)):∀ {ts:List Addr} {l:List (AV×AV)},pairsH H ts l→pairsH H' ts l
 | [],[],_=>trivial
 | _::_,_::_,h=>⟨⟨rfl,k _ _ h.1.2.1,h.1.2.2⟩,pairsH.keep k h.2⟩
 | [],_::_,h=>h.elim
 | _::_,[],h=>h.elim
inductive PL (H:Zaa) (a:Addr) (l:List (Str×Int)):Prop
 | mk (ts:List Addr) (h:H a=some (.list (ts.map .ref))) (p:pairsH H ts (P2 l))
theorem PL.ext {H H':Zaa} {a:Addr} {l:List (Str×Int)} (p:PL H a l) (e:Ext H H'):PL H' a l:=let ⟨ts,h,p⟩:=p;⟨ts,e _ _ h,p.ext e⟩
theorem PL.kb {H H':Zaa} {a b:Addr} {l:List (Str×Int)} {B:Bk} (p:PL H a l) (hb:H b=some (.book B)) (e:Kb b H H'):PL H' a l :=
 have ne:∀ {y x},H y=some x→x.isB=false→y≠b:=fun h hx q=>by rw [q,hb] at h;cases h;cases hx
 let ⟨ts,h,p⟩:=p
 ⟨ts,e _ _ (ne h rfl) h,p.keep fun a v h=>e _ _ (ne h rfl) h⟩
inductive RowAt (H:Zaa) (t:Addr) (nm:Str) (ps:List (Str×Int)):Prop
 | mk (pl gl nl:Addr) (gs:List (Str×Int)) (ns:List Str) (last:Int) (ht:H t=some (.tuple [.str nm,.ref pl,.ref gl,.ref nl,.int last])) (hp:PL H pl ps) (hg:PL H gl gs) (hn:H nl=some (.list (txs ns))) (l0:1≤ps.length) (l1:ps.length≤100) (l2:gs.length≤100) (l3:ns.length≤100) (kn:Kv (.str nm)) (kk:∀ k∈ns,Kv (.str k))
theorem RowAt.ext {H H':Zaa} {t:Addr} {nm:Str} {ps:List (Str×Int)} (r:RowAt H t nm ps) (e:Ext H H'):RowAt H' t nm ps :=
 let ⟨pl,gl,nl,gs,ns,last,ht,hp,hg,hn,l0,l1,l2,l3,kn,kk⟩:=r
 ⟨pl,gl,nl,gs,ns,last,e _ _ ht,hp.ext e,hg.ext e,e _ _ hn,l0,l1,l2,l3,kn,kk⟩
theorem RowAt.kb {H H':Zaa} {b t:Addr} {nm:Str} {ps:List (Str×Int)} {B:Bk} (r:RowAt H t nm ps) (hb:H b=some (.book B)) (e:Kb b H H'):RowAt H' t nm ps :=
 have ne:∀ {y x},H y=some x→x.isB=false→y≠b:=fun h hx q=>by rw [q,hb] at h;cases h;cases hx
 let ⟨pl,gl,nl,gs,ns,last,ht,hp,hg,hn,l0,l1,l2,l3,kn,kk⟩:=r
 ⟨pl,gl,nl,gs,ns,last,e _ _ (ne ht rfl) ht,hp.kb hb e,hg.kb hb e,e _ _ (ne hn rfl) hn,l0,l1,l2,l3,kn,kk⟩
end Mine
end
section
namespace Mine
section
variable {B:Bk} {v w a:AV}
end
end Mine
end
section
namespace Mine
section
variable {α:Type} {xs:List α}
end
theorem Zei {Q:AV→Zaa→Prop} {H:Zaa} {a:Addr} {xs:List AV} {lo hi st:Option AV} {l u t:Option Int} (h:H a=some (.list xs)) (hl:Zh2 lo=some l) (hu:Zh2 hi=some u) (ht:Zh2 st=some t) (h0:t≠some 0) (hz:xs.length≤1000)
  (q:∀ z H',Ext H H'→H z=none→H' z=some (.list (Zbz xs l u t))→Q (.ref z) H'):Zg0 (.ref a) lo hi st Q H:=by
 refine rl Zt3 (rl h ?_)
 exact ⟨l,u,t,hl,hu,ht,h0,Nat.le_trans hz (by decide),fun z hz=>q z _ (Ext.refl.new hz) hz Zac⟩
theorem Zww (x:Int):IntMulOk 2 (x.fmod 2)∧(1 - 2*x.fmod 2=1∨1 - 2*x.fmod 2 = -1):=by
 have h0:=Zcb (x:=x) (m:=2) (by decide)
 have h1:=Zcy (x:=x) (m:=2) (by decide)
 exact ⟨IntMulOk.of_left (by decide +kernel),by lia⟩
end Mine
end
section
namespace Mine
theorem Kv.nm {s:Str} (h:isNm s=true):Kv (.str s):=.str (by
 unfold isNm at h
 rw [Bool.and_eq_true,decide_eq_true_eq] at h
 exact Nat.lt_of_le_of_lt h.1.2 (by decide))
section
variable {c:Cx} {P:Pg} (G:Gd c P) {n:Nat} {md:Bool} {V:VV} {Q:AV→Zaa→Prop} {E:String→Zaa→Prop} {H:Zaa} {sp:Addr} {ns:List Int}
theorem Zhy {a b:Addr} {xs ys:List AV} (ha:H a=some (.list xs)) (hb:H b=some (.list ys)) (hs:xs.length+ys.length≤1000) (q:∀ z,H z=none→Q (.ref z) (up H z (.list (xs++ys)))):wbin .Add (.ref a) (.ref b) Q H:=by
 show match H a,H b with | some (.list xs),some (.list ys)=>_ | _,_=>False
 refine rl ha (rl hb ?_)
 exact ⟨Nat.le_trans hs (by decide),q⟩
include G
end
end Mine
end
section
namespace Mine
theorem Zox {f:Nat→Int} {n:Nat}:sm (List.range (n+1)) f=sm (List.range n) f+f n:=by
 rw [List.range_succ,Zoy]
 show _+(f n+0)=_
 rw [Int.add_zero]
theorem Zr2 {f g:Nat→Int} {n j:Nat} {d:Int} (hj:j<n) (h:∀ i,i≠j→g i=f i) (e:g j=f j+d):sm (List.range n) g=sm (List.range n) f+d:=by
 induction n with
 | zero=>cases hj
 | succ n ih =>
  rw [Zox,Zox]
  by_cases q:j=n
  ·rw [← q,e,Zr3 (f:=g) (g:=f) fun i hi=>h i (Nat.ne_of_lt (List.mem_range.mp hi)),Int.add_assoc]
  ·rw [ih (Nat.lt_of_le_of_ne (Nat.le_of_lt_succ hj) q),h n fun z=>q z.symm];lia
noncomputable def chg (B B':Bk) (s:Str) (j:Nat):Int:=match B.pacts[j]? with
 | none=>0
 | some x=>match B'.pacts[j]? with
  | none=>0
  | some y=>if y.state=x.state then 0 else sAt (back x y.state) s
theorem Zum {B B':Bk} {s:Str} {j:Nat} {x y:Pc} (h:B.pacts[j]? = some x) (h':B'.pacts[j]? = some y):chg B B' s j=if y.state=x.state then 0 else sAt (back x y.state) s:=by
 unfold chg;rw [h,h']
structure Ended (w:Sta) (B B':Bk):Prop where
 len:B'.pacts.length=B.pacts.length
 at_:∀ (j:Nat) (x:Pc),B.pacts[j]? = some x→B'.pacts[j]? = some x∨(x.state = .opn∧(w = .fln∨w = .dn∧Zck x=true)∧B'.pacts[j]? = some (x.end w))
 f:∀ s,vl B'.free s=vl B.free s+sm (List.range B.pacts.length) (chg B B' s)
section
variable {w:Sta} {B B' B1 B2:Bk}
theorem Ztp (h:B'.pacts=B.pacts) {s:Str} {j:Nat}:chg B B' s j=0:=by
 unfold chg
 rw [h]
 cases B.pacts[j]? with
 | none=>rfl
 | some x=>exact if_pos rfl
theorem Ended.refl (h:B'.pacts=B.pacts) (hf:B'.free=B.free):Ended w B B' :=
 ⟨by rw [h],fun j x hx=>.inl (by rw [h];exact hx),fun s=>by rw [hf,Zi4 fun j _=>Ztp h,Int.add_zero]⟩
theorem Ended.step {j:Nat} {x:Pc} (h:Ended w B B1) (hw:w≠.opn) (q:Zl5 B1 B2 j x w):Ended w B B2:=by
 have hj:j<B1.pacts.length:=(List.getElem?_eq_some_iff.mp q.at_).1
 have hj0:j<B.pacts.length:=h.len▸hj
 have hx:B.pacts[j]? = some x:=by
  rcases h.at_ j _ (List.getElem?_eq_getElem hj0) with e | ⟨_,_,e⟩
  ·rw [List.getElem?_eq_getElem hj0,← e,q.at_]
  ·rw [q.at_] at e
   exact absurd (by have:=congrArg Pc.state (Option.some.inj e);rw [q.op] at this;exact this.symm) hw
 have h2:B2.pacts[j]? = some (x.end w):=by rw [q.ps,List.getElem?_set_self hj]
 have ho:∀ i,i≠j→B2.pacts[i]? = B1.pacts[i]?:=fun i hi=>by rw [q.ps,List.getElem?_set_ne hi.symm]
 refine ⟨by rw [q.ps,List.length_set,h.len],fun i y hy=>?_,fun s=>?_⟩
 ·by_cases e:i=j
  ·rw [e,hx] at hy
   rw [e,← Option.some.inj hy]
   exact .inr ⟨q.op,q.hw,h2⟩
  ·rw [ho i e];exact h.at_ i y hy
 ·rw [q.f.v,h.f,Int.add_assoc]
  refine congrArg _ (Zr2 hj0 (fun i hi=>?_) ?_).symm
  ·unfold chg;rw [ho i hi]
  ·rw [Zum hx h2,Zum hx q.at_,if_pos rfl,if_neg (fun e=>hw (e.trans q.op)),Int.zero_add];rfl
end
end Mine
end
section
namespace Mine
section
variable {pur:List Str} {c:Int} {k:Nat}
noncomputable def Zfm (pur:List Str) (c:Int) (j:Nat):Str:=pur.getD ((c+j).fmod pur.length).toNat (Str.ofString "")
noncomputable def cyc (pur:List Str) (c:Int) (k:Nat):List Str:=(List.range k).map (Zfm pur c)
theorem Zjn:cyc pur c (k+1)=cyc pur c k++[Zfm pur c k]:=by
 unfold cyc;refine rl List.range_succ (rl List.map_append ?_);rfl
theorem Zo5 (h:0<pur.length) {j:Nat}:((c+j).fmod pur.length).toNat<pur.length:=by
 have h0:=Zcb (x:=c+j) (m:=pur.length) (Int.ofNat_lt.mpr h)
 have h1:=Zcy (x:=c+j) (m:=pur.length) (Int.ofNat_lt.mpr h)
 exact (Int.toNat_lt h0).mpr h1
theorem Zi6 (h:0<pur.length) {j:Nat}:pur[((c+j).fmod pur.length).toNat]? = some (Zfm pur c j):=by
 unfold Zfm;refine rl (List.getD_eq_getElem?_getD) (rl (List.getElem?_eq_getElem (Zo5 h)) ?_);rfl
theorem Zr9 (h:0<pur.length) {j:Nat}:Zfm pur c j∈pur:=List.mem_of_getElem? (Zi6 h)
theorem Zwf (h:0<pur.length) {s:Str} (hs:s∈cyc pur c k):s∈pur:=by
 obtain ⟨j,_,rfl⟩:=List.mem_map.mp hs
 exact Zr9 h
theorem Zvb {n i j:Nat} (h1:i<j) (h2:j<n):(c+j).fmod n≠(c+i).fmod n:=by
 intro e
 rw [Int.fmod_eq_emod_of_nonneg _ (Int.natCast_nonneg n),Int.fmod_eq_emod_of_nonneg _ (Int.natCast_nonneg n)] at e
 have e:=Int.emod_eq_emod_iff_emod_sub_eq_zero.mp e
 rw [Int.add_sub_add_left,← Int.natCast_sub (Nat.le_of_lt h1),← Int.natCast_emod,Nat.mod_eq_of_lt (Nat.lt_of_le_of_lt (Nat.sub_le j i) h2)] at e
 exact Nat.sub_ne_zero_of_lt h1 (Int.natCast_inj.mp e)
theorem Zq5 (nd:pur.Nodup) (h:k≤pur.length):(cyc pur c k).Nodup:=by
 induction k with
 | zero=>exact List.nodup_nil
 | succ k ih =>
  have h0:0<pur.length:=Nat.lt_of_lt_of_le (Nat.succ_pos k) h
  rw [Zjn,List.nodup_append]
  refine ⟨ih (Nat.le_of_lt h),List.nodup_cons.mpr ⟨List.not_mem_nil,List.nodup_nil⟩,fun a ha b hb e=>?_⟩
  obtain ⟨j,hj,rfl⟩:=List.mem_map.mp ha
  rw [List.mem_singleton.mp hb] at e
  have hj:=List.mem_range.mp hj
  refine Zvb (c:=c) hj h ?_
  have a1:=Zi6 (c:=c) (j:=j) h0
  have a2:=Zi6 (c:=c) (j:=k) h0
  rw [← e] at a2
  have:=(List.getElem?_inj (Zo5 h0) nd).mp (a1.trans a2.symm)
  have b1:=Zcb (x:=c+j) (m:=pur.length) (Int.ofNat_lt.mpr h0)
  have b2:=Zcb (x:=c+k) (m:=pur.length) (Int.ofNat_lt.mpr h0)
  exact rl (Eq.symm (Int.toNat_of_nonneg b1)) (rl (Eq.symm (Int.toNat_of_nonneg b2)) (rl this rfl))
end
structure PrOK (pur:List Str) (ps:List (Str×Int)):Prop where
 k:(ps.map (·.1)).Nodup
 m:∀ e∈ps,e.1∈pur∧1≤e.2∧e.2≤1000000000000000000000000000000
 l:1≤ps.length∧ps.length≤8
structure Zwr (pur:List Str) (own:Str) (ps gs:List (Str×Int)) (ns:List Str) (last:Int):Prop where
 p:PrOK pur ps
 g:PrOK pur gs
 eq:sumL ps=sumL gs
 nn:(own::ns).Nodup
 nm:∀ s∈ns,isNm s=true
 l3:ns.length≤8
 la:0≤last
section
variable {B:Bk} {pur:List Str}
theorem Zpe {l acc:List (Str×Int)} (h:∀ e∈l,Za6 B (.str e.1)=true∧Zci (.int e.2)=true) (nd:((acc++l).map (·.1)).Nodup):Zfq B (P2 l) acc = .ok (acc++l):=by
 induction l generalizing acc with
 | nil=>refine rl (List.append_nil ..) ?_;rfl
 | cons e l ih =>
  obtain ⟨h1,h2⟩:=h e (.head _)
  show (if Za6 B (.str e.1)=true then (if e.1∈acc.map (·.1) then _ else if Zci (.int e.2)=true then Zfq B (P2 l) (acc++[(e.1,e.2)]) else _) else _)=_
  have e1:acc++e::l=acc++[(e.1,e.2)]++l:=by refine rl (List.append_assoc ..) ?_;rfl
  rw [if_pos h1,if_neg,if_pos h2,ih (fun x hx=>h x (.tail _ hx)) (by rw [← e1];exact nd),e1]
  rw [List.map_append,List.nodup_append] at nd
  exact fun hm=>nd.2.2 _ hm e.1 (.head _) rfl
theorem Zj6 {l:List (Str×Int)} (hf:B.free.map (·.1)=pur) (hn:∀ s∈pur,isNm s=true) (p:PrOK pur l):Zel B (P2 l) = .ok l:=by
 unfold Zel
 refine rl Zuo (rl (if_pos p.l) ?_)
 refine Zpe (acc:=[]) (fun e he=>⟨?_,decide_eq_true (p.m e he).2⟩) p.k
 show (isNm e.1&&hs B.free e.1)=true
 refine rl (hn _ (p.m e he).1) (rl ((Zbr hf).mpr (p.m e he).1) ?_);rfl
theorem Zpx {l seen:List Str} (h:∀ s∈l,isNm s=true) (hf:∀ s,Zcc B s=false) (nd:(seen++l).Nodup):Zgi B (txs l) seen = .ok ():=by
 induction l generalizing seen with
 | nil=>rfl
 | cons s l ih =>
  show (if isNm s=true then (if s∈seen then _ else if Zcc B s=true then _ else Zgi B (txs l) (seen++[s])) else _)=_
  have e1:seen++s::l=seen++[s]++l:=by refine rl (List.append_assoc ..) ?_;rfl
  rw [if_pos (h s (.head _)),if_neg,if_neg (by rw [hf];exact Bool.false_ne_true),ih (fun x hx=>h x (.tail _ hx)) (by rw [← e1];exact nd)]
  rw [List.nodup_append] at nd
  exact fun hm=>nd.2.2 _ hm s (.head _) rfl
theorem Zoo {own:Str} {ps gs:List (Str×Int)} {ns:List Str} {last:Int} (r:Zwr pur own ps gs ns last) (hf:B.free.map (·.1)=pur) (hn:∀ s∈pur,isNm s=true) (ho:isNm own=true) (ht:pAt B.pacts own=none) (hs:∀ x∈B.pacts,x.state = .opn) (hd:B.day=0) :
  Znb B (.str own) (P2 ps) (P2 gs) (txs ns) (.int last) = .ok { B with pacts:=B.pacts++[⟨own,ps,gs,ns,last,.opn,[]⟩] }:=by
 have hfl:∀ s,Zcc B s=false:=fun s=>by
  unfold Zcc
  cases e:pAt B.pacts s with
  | none=>rfl
  | some w=>show (w.2.state==.fln)=false;refine rl (hs _ (List.mem_of_getElem? (Zbb (j:=w.1) (q:=w.2) e).1)) ?_;rfl
 have hnq:Zfu B own (txs ns) = .ok ():=by
  unfold Zfu
  refine rl Zaj (rl (if_pos r.l3) ?_)
  exact Zpx r.nm hfl r.nn
 refine (if_pos ho).trans ((if_neg (fun h=>Bool.false_ne_true ((congrArg Option.isSome ht).symm.trans h))).trans ((Zrg (Zj6 hf hn r.p)).trans ((Zrg (Zj6 hf hn r.g)).trans ((if_neg (fun z=>z r.eq)).trans ((Zrg (show Zfu B own (txs ns) = .ok () from hnq)).trans ((if_pos ⟨rfl,by show ¬ last<B.day;refine rl hd ?_;exact Int.not_lt.mpr r.la⟩).trans ?_))))))
 show Except.ok _=Except.ok _
 have e:(txs ns).map Zax=ns:=by
  unfold txs;refine rl List.map_map ?_;exact List.map_id _
 refine rl e ?_;rfl
end
end Mine
end
section
namespace Mine
noncomputable def All2 {α β:Type} (p:α→β→Prop):List α→List β→Prop
 | [],[]=>True
 | a::as,b::bs=>p a b∧All2 p as bs
 | _,_=>False
theorem All2.ind {α β:Type} {p:α→β→Prop} {C:List α→List β→Prop} {as:List α} {bs:List β} (h:All2 p as bs) (h0:C [] []) (h1:∀ a b as bs,p a b→C as bs→C (a::as) (b::bs)):C as bs:=by
 induction as generalizing bs with
 | nil=>cases bs with
  | nil=>exact h0
  | cons=>exact h.elim
 | cons a as ih=>cases bs with
  | nil=>exact h.elim
  | cons b bs=>exact h1 a b as bs h.1 (ih h.2)
section
variable {α β:Type} {p p':α→β→Prop} {as as':List α} {bs bs':List β}
theorem All2.map (h:All2 p as bs) (f:∀ {a b},p a b→p' a b):All2 p' as bs:=h.ind (C:=All2 p') trivial fun _ _ _ _ h ih=>⟨f h,ih⟩
theorem All2.len (h:All2 p as bs):as.length=bs.length:=h.ind (C:=fun as bs=>as.length=bs.length) rfl fun _ _ _ _ _ ih=>congrArg Nat.succ ih
theorem All2.app (h:All2 p as bs) (h':All2 p as' bs'):All2 p (as++as') (bs++bs'):=h.ind (C:=fun as bs=>All2 p (as++as') (bs++bs')) h' fun _ _ _ _ h ih=>⟨h,ih⟩
theorem All2.getR (h:All2 p as bs) {j:Nat} {b:β}:bs[j]? = some b→∃ a,as[j]? = some a∧p a b :=
 h.ind (C:=fun as bs=>∀ j,bs[j]? = some b→∃ a,as[j]? = some a∧p a b) (fun j e=>by contradiction) (fun a' b as bs h ih j=>by
  cases j with
  | zero=>exact fun e=>by obtain rfl:=Option.some.inj e;exact ⟨a',rfl,h⟩
  | succ j=>exact ih j) j
theorem All2.snoc {a:α} {b:β} (h:All2 p as bs) (x:p a b):All2 p (as++[a]) (bs++[b]):=h.app ⟨x,trivial⟩
theorem All2.turn {j:Nat} {a:α} {b:β} (h:All2 p as bs) (hp:p' a b) (k:∀ (i:Nat) x y,i≠j→as[i]? = some x→bs[i]? = some y→p x y→p' x y):All2 p' (as.set j a) (bs.set j b):=by
 induction as generalizing bs j with
 | nil=>cases bs with
  | nil=>trivial
  | cons=>exact h.elim
 | cons x as ih=>cases bs with
  | nil=>exact h.elim
  | cons y bs =>
   cases j with
   | zero=>exact ⟨hp,by
     have:∀ {as:List α} {bs:List β},All2 p as bs→(∀ (i:Nat) x y,as[i]? = some x→bs[i]? = some y→p x y→p' x y)→All2 p' as bs:=fun {as bs} h=>h.ind (C:=fun as bs=>(∀ (i:Nat) x y,as[i]? = some x→bs[i]? = some y→p x y→p' x y)→All2 p' as bs) (fun _=>trivial) fun a b as bs h ih k=>⟨k 0 a b rfl rfl h,ih fun i=>k (i+1)⟩
     exact this h.2 fun i x y=>k (i+1) x y (by lia)⟩
   | succ j=>exact ⟨k 0 x y (by lia) rfl rfl h.1,ih h.2 fun i x y hi=>k (i+1) x y (by lia)⟩
end
section
variable {H:Zaa} {g:Gx} {V:VV} {Q:AV→Zaa→Prop} {E:String→Zaa→Prop}
theorem Zjy {a:Addr} {xs:List AV} {j:Nat} {v:AV} (h:H a=some (.tuple xs)) (hj:xs[j]? = some v) (hl:xs.length≤1000) (q:Q v H):wsub (.ref a) (.int j) Q H:=by
 have hlt:=(List.getElem?_eq_some_iff.mp hj).1
 (dsimp only [Zgf];refine rl h ?_)
 refine ⟨j,v,?_,by lia,by lia,hj,q⟩
 unfold Zgn
 refine rl (if_pos (Int.natCast_nonneg j)) (rl (if_pos (by lia)) ?_);rfl
theorem Zou {a:Addr} {xs:List AV} {j:Nat} {v:AV} (h:H a=some (.list xs)) (hj:xs[j]? = some v) (hl:xs.length≤1000) (q:Q v H):wsub (.ref a) (.int j) Q H:=by
 have hlt:=(List.getElem?_eq_some_iff.mp hj).1
 (dsimp only [Zgf];refine rl h ?_)
 refine ⟨j,v,?_,by lia,by lia,hj,q⟩
 unfold Zgn
 refine rl (if_pos (Int.natCast_nonneg j)) (rl (if_pos (by lia)) ?_);rfl
theorem Zg5 {a:Addr} {xs:List AV} {i:Int} (h:H a=some (.list xs)) (h0:0≤i) (h1:i<xs.length) (hl:xs.length≤1000) (q:∀ v∈xs,Q v H):wsub (.ref a) (.int i) Q H:=by
 have hlt:i.toNat<xs.length:=by lia
 have:=Zou (Q:=Q) (j:=i.toNat) h (List.getElem?_eq_getElem hlt) hl (q _ (List.getElem_mem hlt))
 rw [Int.toNat_of_nonneg h0] at this
 exact this
theorem Zt0 {sp:Addr} {ns:List Int} {k:Nat} (h:H sp=some (.script ns)) (hk:k<ns.length) (hl:ns.length≤1000) (q:∀ i,Q (.int i) H):wsub (.ref sp) (.int k) Q H:=by
 (dsimp only [Zgf];refine rl h ?_)
 exact ⟨Int.natCast_nonneg k,by lia,ns[k],by refine rl (Int.toNat_natCast ..) ?_;exact List.getElem?_eq_getElem hk,q _⟩
theorem Zuj {sp:Addr} {ns:List Int} {md:Bool} (h:H sp=some (.script ns)) (hl:ns.length≤1000) (q:Q (.int ns.length) H):Zdx md .len [.ref sp] Q H:=by
 (dsimp only [Zee];refine rl h ?_)
 exact ⟨by lia,q⟩
end
structure gd (k:Nat) (d:PyData):Prop where
 f:Zlz d=true
 dp:d.depth≤k
 e:PyData.eqv d d=true
theorem Zwv {ne:Bool} {v:AV} {Q:AV→Zaa→Prop} {H:Zaa} (kv:Kv v) (q:Q (.bool (nt ne true)) H):weq ne v v Q H:=by
 cases v with
 | int i=>show Q (.bool (nt ne (i==i))) H;refine rl (beq_self_eq_true ..) ?_;exact q
 | str s=>show Q (.bool (nt ne (s==s))) H;refine rl (beq_self_eq_true ..) ?_;exact q
 | none=>exact ⟨_,_,.none,.none,⟨rfl,Nat.zero_le _⟩,⟨rfl,Nat.zero_le _⟩,q⟩
 | bool b=>exact ⟨_,_,.bool b,.bool b,⟨rfl,Nat.zero_le _⟩,⟨rfl,Nat.zero_le _⟩,by refine rl (show PyData.eqv (.bool b) (.bool b)=true from Zyy (v:=.bool b)) ?_;exact q⟩
 | ref a=>exact absurd rfl (kv.nr a)
noncomputable def Kp (H H':Zaa):Prop:=∀ a x,x.isB=false→H a=some x→H' a=some x
section
variable {H H' H'':Zaa} {b:Addr} {B:Bk}
theorem Kp.refl:Kp H H:=fun _ _ _ h=>h
theorem Kp.trans (x:Kp H H') (y:Kp H' H''):Kp H H'':=fun a o n h=>y a o n (x a o n h)
theorem Kp.ext (e:Ext H H'):Kp H H':=fun a o _ h=>e a o h
theorem Kp.kb (hb:H b=some (.book B)) (e:Kb b H H'):Kp H H':=fun a o n h=>e a o (fun q=>by rw [q,hb] at h;cases h;cases n) h
theorem Kp.up {y:AObj} (hb:H b=some (.book B)):Kp H (Mine.up H b y):=Kp.kb hb .up
end
theorem Zyv {l l':List (Str×Int)} (k:l.map (·.1)=l'.map (·.1)) (nd:(l.map (·.1)).Nodup) (v:∀ s,vl l s=vl l' s):l=l':=by
 induction l generalizing l' with
 | nil=>cases l' with
  | nil=>rfl
  | cons=>cases k
 | cons e l ih=>cases l' with
  | nil=>cases k
  | cons e' l' =>
   obtain ⟨k1,k2⟩:=List.cons.inj k
   obtain ⟨n1,n2⟩:=List.nodup_cons.mp nd
   have h1:=v e.1
   rw [Zec,Zec,if_pos rfl,if_pos (show e'.1=e.1 from k1.symm)] at h1
   rw [show e=e' from Prod.ext k1 h1,ih k2 n2 fun s=>?_]
   by_cases q:s=e.1
   ·have z:∀ {m:List (Str×Int)},s ∉ m.map (·.1)→vl m s=0:=fun {m} hm=>by
     induction m with
     | nil=>rfl
     | cons a m ihm=>rw [Zec,if_neg (fun z=>hm (List.mem_cons.mpr (.inl z.symm)))];exact ihm fun z=>hm (.tail _ z)
    exact rl (z (by rw [q];exact n1)) (rl (z (by rw [q,← k2];exact n1)) rfl)
   ·have:=v s
    rw [Zec,Zec,if_neg (fun z=>q z.symm),if_neg (fun z=>q (k1.trans z).symm)] at this
    exact this
end Mine
end
section
namespace Mine.L09
noncomputable def f__law_told:Fn:=⟨4,["_law_book","_law_way","_law_purse","_law_pact","_law_told_here"],[
 .try [.ite (.cmp .Eq (.var 1) (.lit (.int 0))) [.assign (.var 4) (.meth (.var 0) "set_aside" [(.var 2),(.var 3)])] [.assign (.var 4) (.meth (.var 0) "draw_back" [(.var 2),(.var 3)])]] [.mk "NoPurse" none [.ret (.lit (.str (Str.ofString "NoPurse")))],.mk "NoPact" none [.ret (.lit (.str (Str.ofString "NoPact")))],.mk "NotOpen" none [.ret (.lit (.str (Str.ofString "NotOpen")))],.mk "NoPart" none [.ret (.lit (.str (Str.ofString "NoPart")))],.mk "Already" none [.ret (.lit (.str (Str.ofString "Already")))],.mk "NotAside" none [.ret (.lit (.str (Str.ofString "NotAside")))],.mk "TooLittle" none [.ret (.lit (.str (Str.ofString "TooLittle")))]],
 .ret (.var 4)]⟩
noncomputable def f__law_due:Fn:=⟨5,["_law_free","_law_pacts","_law_way","_law_purse","_law_pact","_law_parts","_law_inside","_law_state"],[
 .ite (.ao false [(.not (.isinst (.var 3) "str")),(.cmp .NotIn (.var 3) (.var 0))]) [.ret (.lit (.str (Str.ofString "NoPurse")))] [],
 .ite (.ao false [(.not (.isinst (.var 4) "str")),(.cmp .NotIn (.var 4) (.var 1))]) [.ret (.lit (.str (Str.ofString "NoPact")))] [],
 .assign (.tup [5,6,7]) (.sub (.var 1) (.var 4)),
 .ite (.cmp .NotEq (.var 7) (.lit (.str (Str.ofString "open")))) [.ret (.lit (.str (Str.ofString "NotOpen")))] [],
 .ite (.ao true [(.cmp .Eq (.var 2) (.lit (.int 1))),(.cmp .NotIn (.var 3) (.var 6))]) [.ret (.lit (.str (Str.ofString "NotAside")))] [],
 .ite (.cmp .Eq (.var 2) (.lit (.int 1))) [.expr (.bm (.var 6) .remove [(.var 3)]),
  .assign (.sub (.var 0) (.var 3)) (.bin .Add (.sub (.var 0) (.var 3)) (.sub (.var 5) (.var 3))),
  .ret (.lit .none)] [],
 .ite (.cmp .NotIn (.var 3) (.var 5)) [.ret (.lit (.str (Str.ofString "NoPart")))] [],
 .ite (.cmp .In (.var 3) (.var 6)) [.ret (.lit (.str (Str.ofString "Already")))] [],
 .ite (.cmp .Gt (.sub (.var 5) (.var 3)) (.sub (.var 0) (.var 3))) [.ret (.lit (.str (Str.ofString "TooLittle")))] [],
 .expr (.bm (.var 6) .append [(.var 3)]),
 .assign (.sub (.var 0) (.var 3)) (.bin .Sub (.sub (.var 0) (.var 3)) (.sub (.var 5) (.var 3))),
 .ret (.lit .none)]⟩
noncomputable def f__law_ended:Fn:=⟨4,["_law_free","_law_pacts","_law_name","_law_word","_law_parts","_law_inside","_law_state","_law_purse"],[
 .assign (.tup [4,5,6]) (.sub (.var 1) (.var 2)),
 .for (.var 7) (.var 5) [.ite (.cmp .Eq (.var 3) (.lit (.str (Str.ofString "fallen")))) [.assign (.sub (.var 0) (.var 7)) (.bin .Add (.sub (.var 0) (.var 7)) (.sub (.var 4) (.var 7)))] []],
 .ite (.cmp .Eq (.var 3) (.lit (.str (Str.ofString "done")))) [.assign (.sub (.var 0) (.lit (.str (Str.ofString "quay")))) (.bin .Add (.sub (.var 0) (.lit (.str (Str.ofString "quay")))) (.prim .sum [(.bm (.var 4) .values [])]))] [],
 .assign (.sub (.var 1) (.var 2)) (.tuple [(.var 4),(.list []),(.var 3)])]⟩
noncomputable def f__law_due_of:Fn:=⟨4,["_law_free","_law_pacts","_law_way","_law_name","_law_parts","_law_inside","_law_state"],[
 .ite (.cmp .Eq (.var 2) (.lit (.int 0))) [.ret (.sub (.var 0) (.var 3))] [],
 .ite (.cmp .Eq (.var 2) (.lit (.int 1))) [.ret (.prim .sum [(.comp (.sub (.sub (.sub (.var 1) (.var 7)) (.lit (.int 0))) (.var 3)) 1 false (.var 1) (some (.cmp .In (.var 3) (.sub (.sub (.var 1) (.var 7)) (.lit (.int 1))))))])] [],
 .ite (.cmp .Eq (.var 2) (.lit (.int 5))) [.ret (.prim .list [(.var 1)])] [],
 .assign (.tup [4,5,6]) (.sub (.var 1) (.var 3)),
 .ite (.cmp .Eq (.var 2) (.lit (.int 2))) [.ret (.var 6)] [],
 .ite (.cmp .Eq (.var 2) (.lit (.int 3))) [.ret (.comp (.var 7) 1 false (.var 4) (some (.cmp .In (.var 7) (.var 5))))] [],
 .ret (.ao true [(.cmp .Eq (.var 6) (.lit (.str (Str.ofString "open")))),(.cmp .Eq (.prim .len [(.var 5)]) (.prim .len [(.var 4)]))])]⟩
noncomputable def f__law_one_same:Fn:=⟨6,["_law_book","_law_free","_law_pacts","_law_way","_law_name","_law_held","_law_found"],[
 .assign (.var 6) (.ite (.cmp .Eq (.var 3) (.lit (.int 5))) (.meth (.var 0) "told" []) (.call "_law_answer" [(.var 0),(.var 3),(.var 4)])),
 .ite (.cmp .NotEq (.var 6) (.call "_law_due_of" [(.var 1),(.var 2),(.var 3),(.var 4)])) [.ret (.lit (.bool false))] [],
 .ite (.cmp .Lt (.var 3) (.lit (.int 2))) [.ret (.call "_law_whole" [(.var 6)])] [],
 .ite (.cmp .In (.var 3) (.tuple [(.lit (.int 3)),(.lit (.int 5))])) [.expr (.bm (.var 6) .append [(.lit (.str (Str.ofString "more")))]),
  .expr (.bm (.var 5) .append [(.tuple [(.var 6),(.prim .list [(.var 6)])])])] [],
 .ret (.ao false [(.cmp .In (.var 3) (.tuple [(.lit (.int 2)),(.lit (.int 3)),(.lit (.int 5))])),(.isinst (.var 6) "bool")])]⟩
noncomputable def f__law_crossed:Fn:=⟨2,["_law_ways","_law_names","_law_found","_law_way"],[
 .assign (.var 2) (.list []),
 .for (.var 3) (.var 0) [.assign (.var 2) (.bin .Add (.var 2) (.comp (.tuple [(.var 3),(.var 4)]) 1 false (.var 1) none))],
 .ret (.var 2)]⟩
noncomputable def f__law_same:Fn:=⟨5,["_law_book","_law_free","_law_pacts","_law_turn","_law_held","_law_asked","_law_at"],[
 .ite (.cmp .Eq (.bin .Mod (.var 3) (.lit (.int 5))) (.lit (.int 4))) [.ret (.lit (.bool true))] [],
 .assign (.var 5) (.bin .Add (.bin .Add (.call "_law_crossed" [(.list [(.lit (.int 0)),(.lit (.int 1))]),(.var 1)]) (.list [(.tuple [(.lit (.int 5)),(.lit (.str (Str.ofString "")))])])) (.call "_law_crossed" [(.list [(.lit (.int 2)),(.lit (.int 3)),(.lit (.int 4))]),(.var 2)])),
 .assign (.var 5) (.bin .Add (.slice (.var 5) (some (.bin .Mod (.bin .FloorDiv (.var 3) (.lit (.int 5))) (.lit (.int 2)))) none (some (.lit (.int 2)))) (.slice (.var 5) (some (.bin .Sub (.lit (.int 1)) (.bin .Mod (.bin .FloorDiv (.var 3) (.lit (.int 5))) (.lit (.int 2))))) none (some (.lit (.int 2))))),
 .assign (.var 6) (.bin .Mod (.bin .FloorDiv (.var 3) (.lit (.int 10))) (.prim .len [(.var 5)])),
 .assign (.var 5) (.slice (.bin .Add (.slice (.var 5) (some (.var 6)) none none) (.slice (.var 5) none (some (.var 6)) none)) none none (some (.bin .Sub (.lit (.int 1)) (.bin .Mult (.lit (.int 2)) (.bin .Mod (.bin .FloorDiv (.var 3) (.lit (.int 1000))) (.lit (.int 2))))))),
 .ret (.prim .all [(.comp (.call "_law_one_same" [(.var 0),(.var 1),(.var 2),(.var 7),(.var 8),(.var 4)]) 2 true (.var 5) none)])]⟩
noncomputable def f__law_pact_by:Fn:=⟨2,["_law_cell","_law_unit","_law_parts","_law_rest","_law_j"],[
 .assign (.var 2) (.dict [] []),
 .assign (.var 3) (.bin .FloorDiv (.var 0) (.lit (.int 9))),
 .for (.var 4) (.prim .range [(.bin .Add (.lit (.int 1)) (.bin .Mod (.var 0) (.lit (.int 3))))]) [.assign (.sub (.var 2) (.sub (.list [(.lit (.str (Str.ofString "quay"))),(.lit (.str (Str.ofString "till"))),(.lit (.str (Str.ofString "mill")))]) (.bin .Mod (.bin .Add (.bin .FloorDiv (.var 0) (.lit (.int 3))) (.var 4)) (.lit (.int 3))))) (.bin .Mult (.bin .Add (.lit (.int 1)) (.bin .Mod (.var 3) (.lit (.int 30)))) (.var 1)),
  .assign (.var 3) (.bin .FloorDiv (.var 3) (.lit (.int 30)))],
 .ret (.var 2)]⟩
noncomputable def f__law_kept:Fn:=⟨3,["_law_found","_law_due_here","_law_held"],[
 .ite (.ao false [(.not (.isinst (.var 0) "list")),(.cmp .NotEq (.var 0) (.var 1))]) [.ret (.lit (.bool false))] [],
 .expr (.bm (.var 0) .append [(.lit (.str (Str.ofString "more")))]),
 .expr (.bm (.var 2) .append [(.tuple [(.var 0),(.prim .list [(.var 0)])])]),
 .ret (.lit (.bool true))]⟩
noncomputable def f__law_deed:Fn:=⟨6,["_law_book","_law_free","_law_pacts","_law_cell","_law_unit","_law_held","_law_way","_law_pact","_law_purse","_law_amount","_law_names","_law_name"],[
 .assign (.var 6) (.sub (.list [(.lit (.int 0)),(.lit (.int 0)),(.lit (.int 0)),(.lit (.int 0)),(.lit (.int 0)),(.lit (.int 1)),(.lit (.int 2)),(.lit (.int 3)),(.lit (.int 4)),(.lit (.int 5))]) (.bin .Mod (.var 3) (.lit (.int 10)))),
 .assign (.var 7) (.sub (.list [(.lit (.str (Str.ofString "one"))),(.lit (.str (Str.ofString "two"))),(.lit (.str (Str.ofString "three"))),(.lit (.str (Str.ofString "four"))),(.lit (.str (Str.ofString "five"))),(.lit (.str (Str.ofString "six"))),(.lit (.str (Str.ofString "seven")))]) (.bin .Mod (.bin .FloorDiv (.var 3) (.lit (.int 10))) (.lit (.int 7)))),
 .assign (.var 8) (.sub (.list [(.lit (.str (Str.ofString "quay"))),(.lit (.str (Str.ofString "till"))),(.lit (.str (Str.ofString "mill"))),(.lit (.str (Str.ofString "hill")))]) (.bin .Mod (.bin .FloorDiv (.var 3) (.lit (.int 70))) (.lit (.int 4)))),
 .ite (.ao true [(.cmp .Gt (.bin .Mod (.bin .FloorDiv (.var 3) (.lit (.int 280))) (.lit (.int 4))) (.lit (.int 0))),(.cmp .In (.var 7) (.var 2))]) [.assign (.var 8) (.sub (.prim .list [(.sub (.sub (.var 2) (.var 7)) (.lit (.int 0)))]) (.bin .Mod (.bin .FloorDiv (.var 3) (.lit (.int 70))) (.prim .len [(.sub (.sub (.var 2) (.var 7)) (.lit (.int 0)))])))] [],
 .assign (.var 9) (.bin .Mult (.bin .Add (.lit (.int 1)) (.bin .Mod (.bin .FloorDiv (.var 3) (.lit (.int 280))) (.lit (.int 30)))) (.var 4)),
 .ite (.ao true [(.cmp .Lt (.var 6) (.lit (.int 2))),(.cmp .Eq (.bin .Mod (.bin .FloorDiv (.var 3) (.lit (.int 8400))) (.lit (.int 9))) (.lit (.int 1)))]) [.assign (.var 7) (.sub (.list [(.lit (.int 7)),(.lit .none),(.list [(.lit (.str (Str.ofString "one")))])]) (.bin .Mod (.bin .FloorDiv (.var 3) (.lit (.int 75600))) (.lit (.int 3))))] [],
 .ite (.ao true [(.cmp .Lt (.var 6) (.lit (.int 2))),(.cmp .Eq (.bin .Mod (.bin .FloorDiv (.var 3) (.lit (.int 8400))) (.lit (.int 9))) (.lit (.int 2)))]) [.assign (.var 8) (.sub (.list [(.lit (.int 7)),(.lit .none),(.list [(.lit (.str (Str.ofString "till")))])]) (.bin .Mod (.bin .FloorDiv (.var 3) (.lit (.int 75600))) (.lit (.int 3))))] [],
 .ite (.cmp .Lt (.var 6) (.lit (.int 2))) [.ret (.cmp .Eq (.call "_law_told" [(.var 0),(.var 6),(.var 8),(.var 7)]) (.call "_law_due" [(.var 1),(.var 2),(.var 6),(.var 8),(.var 7)]))] [],
 .ite (.ao true [(.cmp .Eq (.var 6) (.lit (.int 2))),(.cmp .In (.var 8) (.var 1))]) [.expr (.meth (.var 0) "put" [(.var 8),(.var 9)]),
  .assign (.sub (.var 1) (.var 8)) (.bin .Add (.sub (.var 1) (.var 8)) (.var 9))] [],
 .ite (.ao true [(.cmp .Eq (.var 6) (.lit (.int 3))),(.cmp .In (.var 8) (.var 1)),(.cmp .LtE (.var 9) (.sub (.var 1) (.var 8)))]) [.expr (.meth (.var 0) "take" [(.var 8),(.var 9)]),
  .assign (.sub (.var 1) (.var 8)) (.bin .Sub (.sub (.var 1) (.var 8)) (.var 9))] [],
 .ite (.ao true [(.cmp .Eq (.var 6) (.lit (.int 4))),(.cmp .In (.var 7) (.var 2)),(.cmp .Eq (.sub (.sub (.var 2) (.var 7)) (.lit (.int 2))) (.lit (.str (Str.ofString "open")))),(.cmp .Eq (.bin .Mod (.bin .FloorDiv (.var 3) (.lit (.int 280))) (.lit (.int 3))) (.lit (.int 0)))]) [.expr (.call "_law_ended" [(.var 1),(.var 2),(.var 7),(.lit (.str (Str.ofString "fallen")))]),
  .ret (.call "_law_kept" [(.meth (.var 0) "call_off" [(.var 7)]),(.list [(.var 7)]),(.var 5)])] [],
 .ite (.cmp .Eq (.var 6) (.lit (.int 5))) [.assign (.var 10) (.comp (.var 12) 1 false (.var 2) (some (.ao true [(.cmp .Eq (.sub (.sub (.var 2) (.var 12)) (.lit (.int 2))) (.lit (.str (Str.ofString "open")))),(.cmp .Eq (.prim .len [(.sub (.sub (.var 2) (.var 12)) (.lit (.int 1)))]) (.prim .len [(.sub (.sub (.var 2) (.var 12)) (.lit (.int 0)))]))]))),
  .for (.var 11) (.var 10) [.expr (.call "_law_ended" [(.var 1),(.var 2),(.var 11),(.lit (.str (Str.ofString "done")))])],
  .ret (.call "_law_kept" [(.meth (.var 0) "settle" []),(.var 10),(.var 5)])] [],
 .ret (.lit (.bool true))]⟩
noncomputable def f__law_answer:Fn:=⟨3,["_law_book","_law_way","_law_name"],[
 .ite (.cmp .Eq (.var 1) (.lit (.int 0))) [.ret (.meth (.var 0) "free_of" [(.var 2)])] [],
 .ite (.cmp .Eq (.var 1) (.lit (.int 1))) [.ret (.meth (.var 0) "aside_of" [(.var 2)])] [],
 .ite (.cmp .Eq (.var 1) (.lit (.int 2))) [.ret (.meth (.var 0) "state_of" [(.var 2)])] [],
 .ite (.cmp .Eq (.var 1) (.lit (.int 3))) [.ret (.meth (.var 0) "inside_of" [(.var 2)])] [],
 .ite (.cmp .Eq (.var 1) (.lit (.int 4))) [.ret (.meth (.var 0) "full" [(.var 2)])] [],
 .ret (.meth (.var 0) "why_not" [(.var 2)])]⟩
noncomputable def f__law_questions:Fn:=⟨2,["_law_book","_law_name","_law_way","_law_word"],[
 .for (.var 2) (.prim .range [(.lit (.int 6))]) [.assign (.var 3) (.lit (.str (Str.ofString ""))),
  .try [.expr (.call "_law_answer" [(.var 0),(.var 2),(.var 1)])] [.mk "NoPurse" none [.assign (.var 3) (.lit (.str (Str.ofString "NoPurse")))],.mk "NoPact" none [.assign (.var 3) (.lit (.str (Str.ofString "NoPact")))]],
  .ite (.cmp .NotEq (.var 3) (.sub (.list [(.lit (.str (Str.ofString "NoPurse"))),(.lit (.str (Str.ofString "NoPact")))]) (.prim .int [(.cmp .Gt (.var 2) (.lit (.int 1)))]))) [.ret (.lit (.bool false))] []],
 .ret (.lit (.bool true))]⟩
noncomputable def f__law_refused_by_any:Fn:=⟨1,["_law_book","e"],[
 .try [.expr (.meth (.var 0) "set_aside" [(.lit (.str (Str.ofString "till"))),(.lit (.str (Str.ofString "seven")))])] [.mk "BookError" (some 1) [.ret (.isinst (.var 1) "ValueError")]],
 .ret (.lit (.bool false))]⟩
noncomputable def f_law:Fn:=⟨1,["_law_script","_law_book","_law_free","_law_pacts","_law_held","_law_unit","_law_k","_law_purse","_law_parts","_law_name","_law_many","_law_odd"],[
 .assign (.var 1) (.new "Book" []),
 .assign (.var 2) (.dict [] []),
 .assign (.var 3) (.dict [] []),
 .assign (.var 4) (.list []),
 .assign (.var 5) (.lit (.int 1)),
 .ite (.cmp .Eq (.bin .Mod (.call "_law_cell_at" [(.var 0),(.lit (.int 0))]) (.lit (.int 5))) (.lit (.int 1))) [.assign (.var 5) (.bin .Pow (.lit (.int 10)) (.lit (.int 27)))] [],
 .for (.var 6) (.prim .range [(.lit (.int 3))]) [.assign (.var 7) (.sub (.list [(.lit (.str (Str.ofString "quay"))),(.lit (.str (Str.ofString "till"))),(.lit (.str (Str.ofString "mill")))]) (.var 6)),
  .assign (.sub (.var 2) (.var 7)) (.bin .Mult (.bin .Mod (.call "_law_mixed" [(.call "_law_cell_at" [(.var 0),(.lit (.int 1))]),(.var 6)]) (.lit (.int 91))) (.var 5)),
  .ite (.not (.call "_law_questions" [(.var 1),(.var 7)])) [.ret (.lit (.bool false))] [],
  .expr (.meth (.var 1) "open_purse" [(.var 7)]),
  .ite (.cmp .Gt (.sub (.var 2) (.var 7)) (.lit (.int 0))) [.expr (.meth (.var 1) "put" [(.var 7),(.sub (.var 2) (.var 7))])] []],
 .for (.var 6) (.prim .range [(.lit (.int 6))]) [.assign (.var 8) (.call "_law_pact_by" [(.call "_law_mixed" [(.call "_law_cell_at" [(.var 0),(.bin .Add (.lit (.int 2)) (.var 6))]),(.var 6)]),(.var 5)]),
  .assign (.var 9) (.sub (.list [(.lit (.str (Str.ofString "one"))),(.lit (.str (Str.ofString "two"))),(.lit (.str (Str.ofString "three"))),(.lit (.str (Str.ofString "four"))),(.lit (.str (Str.ofString "five"))),(.lit (.str (Str.ofString "six")))]) (.var 6)),
  .assign (.sub (.var 3) (.var 9)) (.tuple [(.var 8),(.list []),(.lit (.str (Str.ofString "open")))]),
  .ite (.not (.call "_law_questions" [(.var 1),(.var 9)])) [.ret (.lit (.bool false))] [],
  .expr (.meth (.var 1) "tell" [(.var 9),(.prim .list [(.bm (.var 8) .items [])]),(.list [(.tuple [(.lit (.str (Str.ofString "quay"))),(.prim .sum [(.bm (.var 8) .values [])])])]),(.list []),(.lit (.int 0))])],
 .assign (.var 10) (.lit (.int 30)),
 .ite (.cmp .Gt (.prim .len [(.var 0)]) (.lit (.int 63))) [.assign (.var 10) (.lit (.int 90))] [],
 .for (.var 6) (.prim .range [(.prim .min [(.var 10),(.prim .len [(.var 0)])])]) [.ite (.not (.call "_law_deed" [(.var 1),(.var 2),(.var 3),(.call "_law_mixed" [(.sub (.var 0) (.var 6)),(.bin .Add (.var 6) (.lit (.int 7)))]),(.var 5),(.var 4)])) [.ret (.lit (.bool false))] [],
  .ite (.not (.call "_law_same" [(.var 1),(.var 2),(.var 3),(.bin .FloorDiv (.call "_law_mixed" [(.sub (.var 0) (.var 6)),(.bin .Add (.var 6) (.lit (.int 41)))]) (.lit (.int 3))),(.var 4)])) [.ret (.lit (.bool false))] []],
 .ite (.ao false [(.not (.call "_law_same" [(.var 1),(.var 2),(.var 3),(.lit (.int 0)),(.var 4)])),(.cmp .NotEq (.comp (.var 12) 1 false (.var 4) (some (.cmp .NotEq (.sub (.var 12) (.lit (.int 0))) (.sub (.var 12) (.lit (.int 1)))))) (.list []))]) [.ret (.lit (.bool false))] [],
 .assign (.var 11) (.sub (.list [(.lit (.str (Str.ofString "seven"))),(.lit (.str (Str.ofString "hill"))),(.lit (.int 7)),(.lit .none),(.list [(.lit (.str (Str.ofString "one")))]),(.lit (.str (Str.ofString "")))]) (.bin .Mod (.bin .FloorDiv (.call "_law_cell_at" [(.var 0),(.lit (.int 0))]) (.lit (.int 5))) (.lit (.int 6)))),
 .ret (.ao true [(.call "_law_questions" [(.var 1),(.var 11)]),(.call "_law_refused_by_any" [(.var 1)])])]⟩
noncomputable def P:Pg where
 fns:=[("are_met",BK.f_are_met),("table_of",BK.f_table_of),("greatest",BK.f_greatest),("chain",BK.f_chain),("is_whole",BK.f_is_whole),("is_name",BK.f_is_name),("name_of",BK.f_name_of),("amount_of",BK.f_amount_of),("_law_whole",BK.f__law_whole),("_law_cell_at",BK.f__law_cell_at),("_law_mixed",BK.f__law_mixed),("_law_told",f__law_told),("_law_due",f__law_due),("_law_ended",f__law_ended),("_law_due_of",f__law_due_of),("_law_one_same",f__law_one_same),("_law_crossed",f__law_crossed),("_law_same",f__law_same),("_law_pact_by",f__law_pact_by),("_law_kept",f__law_kept),("_law_deed",f__law_deed),("_law_answer",f__law_answer),("_law_questions",f__law_questions),("_law_refused_by_any",f__law_refused_by_any),("law",f_law),("Pact.__init__",BK.f_Pact___init__),("Pact.part_of",BK.f_Pact_part_of),("Pact.is_full",BK.f_Pact_is_full),("Book.__init__",BK.f_Book___init__),("Book.need_purse",BK.f_Book_need_purse),("Book.need_pact",BK.f_Book_need_pact),("Book.need_open",BK.f_Book_need_open),("Book.open_purse",BK.f_Book_open_purse),("Book.put",BK.f_Book_put),("Book.take",BK.f_Book_take),("Book.pairs_of",BK.f_Book_pairs_of),("Book.needs_of",BK.f_Book_needs_of),("Book.tell",BK.f_Book_tell),("Book.set_aside",BK.f_Book_set_aside),("Book.given_back",BK.f_Book_given_back),("Book.draw_back",BK.f_Book_draw_back),("Book.fell",BK.f_Book_fell),("Book.first_dragged",BK.f_Book_first_dragged),("Book.dragged",BK.f_Book_dragged),("Book.call_off",BK.f_Book_call_off),("Book.standing",BK.f_Book_standing),("Book.settle",BK.f_Book_settle),("Book.why_not",BK.f_Book_why_not),("Book.purses",BK.f_Book_purses),("Book.told",BK.f_Book_told),("Book.free_of",BK.f_Book_free_of),("Book.aside_of",BK.f_Book_aside_of),("Book.state_of",BK.f_Book_state_of),("Book.inside_of",BK.f_Book_inside_of),("Book.full",BK.f_Book_full)]
 gfns:=["_wall","are_met","table_of","greatest","chain","is_whole","is_name","name_of","amount_of","_law_whole","_law_cell_at","_law_mixed","_law_told","_law_due","_law_ended","_law_due_of","_law_one_same","_law_crossed","_law_same","_law_pact_by","_law_kept","_law_deed","_law_answer","_law_questions","_law_refused_by_any","law"]
 consts:=[("LETTERS",(.str (Str.ofString "abcdefghijklmnopqrstuvwxyz"))),("MOST_SIGNS",(.int 12)),("MOST_AMOUNT",(.int 1000000000000000000000000000000)),("MOST",(.int 8))]
 excs:=[("BookError",["BookError","ValueError"]),("NoName",["NoName","BookError","ValueError"]),("NoAmount",["NoAmount","BookError","ValueError"]),("Taken",["Taken","BookError","ValueError"]),("NoPurse",["NoPurse","BookError","ValueError"]),("TooLittle",["TooLittle","BookError","ValueError"]),("NoRow",["NoRow","BookError","ValueError"]),("Twice",["Twice","BookError","ValueError"]),("Uneven",["Uneven","BookError","ValueError"]),("Fallen",["Fallen","BookError","ValueError"]),("NoDay",["NoDay","BookError","ValueError"]),("NoPact",["NoPact","BookError","ValueError"]),("NotOpen",["NotOpen","BookError","ValueError"]),("NoPart",["NoPart","BookError","ValueError"]),("Already",["Already","BookError","ValueError"]),("NotAside",["NotAside","BookError","ValueError"])]
 classes:=["Pact","Book"]
 meths:=[("Pact","__init__"),("Pact","part_of"),("Pact","is_full"),("Book","__init__"),("Book","need_purse"),("Book","need_pact"),("Book","need_open"),("Book","open_purse"),("Book","put"),("Book","take"),("Book","pairs_of"),("Book","needs_of"),("Book","tell"),("Book","set_aside"),("Book","given_back"),("Book","draw_back"),("Book","fell"),("Book","first_dragged"),("Book","dragged"),("Book","call_off"),("Book","pass_days"),("Book","standing"),("Book","settle"),("Book","why_not"),("Book","purses"),("Book","told"),("Book","free_of"),("Book","aside_of"),("Book","state_of"),("Book","inside_of"),("Book","full")]
 attrs:=[("Book","aside"),("Book","day"),("Book","free"),("Book","pacts"),("Pact","gains"),("Pact","inside"),("Pact","last"),("Pact","name"),("Pact","needs"),("Pact","parts"),("Pact","state")]
 prims:=["ValueError","all","bool","int","isinstance","len","list","min","range","str","sum"]
end Mine.L09
end
section
namespace Mine
open L09
noncomputable def AObj.isD:AObj→Bool
 | .dict ..=>true
 | _=>false
noncomputable def AObj.isL:AObj→Bool
 | .list _=>true
 | _=>false
structure Lk (us:List Addr) (H H':Zaa):Prop where
 k:∀ a x,x.isD=false→(x.isL=true→a ∉ us)→H a=some x→H' a=some x
 g:∀ a,H' a=none→H a=none
section
variable {us us':List Addr} {H H' H'':Zaa}
theorem up_g {d:Addr} {o:AObj}:∀ a,up H d o a=none→H a=none:=fun a h=>by
 by_cases q:a=d
 ·rw [q,Zac] at h;contradiction
 ·rw [Zab q] at h;exact h
theorem Lk.refl:Lk us H H:=⟨fun _ _ _ _ h=>h,fun _ h=>h⟩
theorem Lk.ext (e:Ext H H'):Lk us H H':=⟨fun a x _ _ h=>e a x h,fun _ h=>e.none h⟩
theorem Lk.trans (h1:Lk us H H') (h2:Lk us' H' H'') (hu:∀ u∈us',u∈us∨H u=none):Lk us H H'':=⟨fun a x d l h=>h2.k a x d (fun z hm=>(hu a hm).elim (l z) fun e=>by rw [e] at h;contradiction) (h1.k a x d l h),fun a h=>h1.g a (h2.g a h)⟩
theorem Lk.tr (h1:Lk us H H') (h2:Lk us H' H''):Lk us H H'':=h1.trans h2 fun _ h=>.inl h
theorem Lk.dict {d:Addr} {ep ep':Nat} {es es':List (Str×AV)} (hd:H d=some (.dict ep es)):Lk us H (up H d (.dict ep' es')):=⟨fun a x hx _ h=>by
 refine rl (Zab fun q=>by rw [q,hd] at h;obtain rfl:=Option.some.inj h;cases hx) ?_;exact h,up_g⟩
theorem Lk.list {u:Addr} {l l':List AV} (hu:u∈us) (hl:H u=some (.list l)):Lk us H (up H u (.list l')):=⟨fun a x _ hx h=>by
 refine rl (Zab fun q=>by rw [q] at h hx;rw [hl] at h;obtain rfl:=Option.some.inj h;exact hx rfl hu) ?_;exact h,up_g⟩
end
structure R9 where
 t:Addr
 pd:Addr
 u:Addr
structure Row9 (H:Zaa) (r:R9) (x:Pc):Prop where
 t:H r.t=some (.tuple [.ref r.pd,.ref r.u,.str x.state.str])
 d:∃ ep,H r.pd=some (.dict ep (dI x.parts))
 u:H r.u=some (.list (txs x.inside))
structure Mir (H:Zaa) (fa pa:Addr) (rs:List R9) (F:List (Str×Int)) (X:List Pc):Prop where
 f:∃ ep,H fa=some (.dict ep (dI F))
 p:∃ ep,H pa=some (.dict ep (dP X (rs.map (·.t))))
 r:All2 (Row9 H) rs X
 nu:(rs.map (·.u)).Nodup
 sd:∀ r∈rs,r.pd≠fa∧r.pd≠pa
 fp:fa≠pa
theorem Zjm {X:List Pc} {ts:List Addr} (hl:ts.length=X.length) {k:Str}:Zbu (dP X ts) k=(pAt X k).bind fun e=>(ts[e.1]?).map .ref:=by
 induction X generalizing ts with
 | nil=>cases ts with
  | nil=>rfl
  | cons=>cases hl
 | cons q qs ih =>
  cases ts with
  | nil=>cases hl
  | cons a as =>
  unfold Zbu pAt
  refine rl (List.find?_cons) ?_
  by_cases e:q.name=k
  ·refine rl (if_pos e) (rl (show decide ((q.name,AV.ref a).1=k)=true from decide_eq_true e) ?_);rfl
  ·refine rl (if_neg e) (rl (show decide ((q.name,AV.ref a).1=k)=false from decide_eq_false e) ?_)
   have:=ih (Nat.succ.inj hl)
   unfold Zbu at this
   refine rl this ?_
   cases pAt qs k<;>rfl
theorem Ztn {X:List Pc} {ts:List Addr} (hl:ts.length=X.length):(dP X ts).map (·.1)=X.map (·.name):=by
 induction X generalizing ts with
 | nil=>cases ts with
  | nil=>rfl
  | cons=>cases hl
 | cons q qs ih=>cases ts with
  | nil=>cases hl
  | cons a as=>show q.name::(dP qs as).map (·.1)=_;refine rl (ih (Nat.succ.inj hl)) ?_;rfl
section
variable {H H':Zaa} {fa pa:Addr} {rs:List R9} {F:List (Str×Int)} {X:List Pc} {Q:AV→Zaa→Prop} {k:Str} {j:Nat} {x:Pc} {r:R9}
theorem Row9.kp (h:Row9 H r x) (e:Kp H H'):Row9 H' r x:=let ⟨ep,hd⟩:=h.d;⟨e _ _ rfl h.t,⟨ep,e _ _ rfl hd⟩,e _ _ rfl h.u⟩
theorem Mir.kp (M:Mir H fa pa rs F X) (e:Kp H H'):Mir H' fa pa rs F X :=
 let ⟨ef,hf⟩:=M.f
 let ⟨ep,hp⟩:=M.p
 ⟨⟨ef,e _ _ rfl hf⟩,⟨ep,e _ _ rfl hp⟩,M.r.map fun h=>h.kp e,M.nu,M.sd,M.fp⟩
theorem Mir.len (M:Mir H fa pa rs F X):(rs.map (·.t)).length=X.length:=by exact rl (List.length_map ..) (rl (M.r.len ..) rfl)
theorem Mir.row (M:Mir H fa pa rs F X) (h:X[j]? = some x):∃ r,rs[j]? = some r∧Row9 H r x:=M.r.getR h
theorem Zc7 (M:Mir H fa pa rs F X) (h:pAt X k=some (j,x)) (q:∀ r,rs[j]? = some r→Row9 H r x→Q (.ref r.t) H):wsub (.ref pa) (.str k) Q H:=by
 obtain ⟨ep,hp⟩:=M.p
 obtain ⟨r,hr,hrow⟩:=M.row (Zbb h).1
 (dsimp only [Zge];refine rl hp ?_)
 exact ⟨.ref r.t,by refine rl (Zjm M.len) (rl h ?_);show Option.map AV.ref ((rs.map (·.t))[j]?)=_;refine rl (List.getElem?_map) (rl hr ?_);rfl,q r hr hrow⟩
theorem Ziv {no:Bool} (M:Mir H fa pa rs F X) (q:Q (.bool ((pAt X k).isSome != no)) H):win no (.str k) (.ref pa) Q H:=by
 obtain ⟨ep,hp⟩:=M.p
 refine Ziw hp ?_
 refine rl (Zjm M.len) ?_
 cases h:pAt X k with
 | none=>rw [h] at q;exact q
 | some e =>
  obtain ⟨r,hr,_⟩:=M.row (Zbb (j:=e.1) (q:=e.2) h).1
  rw [h] at q
  show Q (.bool ((Option.map AV.ref ((rs.map (·.t))[e.1]?)).isSome != no)) H
  refine rl (List.getElem?_map) (rl hr ?_);exact q
theorem Zc5 {d:Addr} {l:List (Str×Int)} (hd:∃ ep,H d=some (.dict ep (dI l))) (h:hs l k=true) (q:Q (.int (vl l k)) H):wsub (.ref d) (.str k) Q H:=by
 obtain ⟨ep,hd⟩:=hd
 (dsimp only [Zge];refine rl hd ?_)
 exact ⟨.int (vl l k),by refine rl Zf7 (rl (Zep h) ?_);rfl,q⟩
theorem Zl6 {no:Bool} {d:Addr} {l:List (Str×Int)} (hd:∃ ep,H d=some (.dict ep (dI l))) (q:Q (.bool (hs l k != no)) H):win no (.str k) (.ref d) Q H:=by
 obtain ⟨ep,hd⟩:=hd
 refine Ziw hd ?_
 refine rl Zf7 ?_
 have:((lk l k).map AV.int).isSome=hs l k:=by unfold hs;cases lk l k<;>rfl
 refine rl this ?_;exact q
theorem Mir.free {v:Int} {ep:Nat} (M:Mir H fa pa rs F X):Mir (up H fa (.dict ep (dI (pt F k v)))) fa pa rs (pt F k v) X:=by
 obtain ⟨ef,hf⟩:=M.f
 obtain ⟨epp,hp⟩:=M.p
 refine ⟨⟨ep,Zac⟩,⟨epp,by refine rl (Zab M.fp.symm) ?_;exact hp⟩,?_,M.nu,M.sd,M.fp⟩
 have:∀ {rs X},(∀ r∈rs,r.pd≠fa)→All2 (Row9 H) rs X→All2 (Row9 (up H fa (.dict ep (dI (pt F k v))))) rs X:=fun {rs X} hs h=>by
  induction rs generalizing X with
  | nil=>cases X with
   | nil=>trivial
   | cons=>exact h.elim
  | cons r rs ih=>cases X with
   | nil=>exact h.elim
   | cons x X =>
    obtain ⟨t,⟨e,d⟩,u⟩:=h.1
    exact ⟨⟨by refine rl (Zab fun q=>by rw [q,hf] at t;cases t) ?_;exact t,⟨e,by refine rl (Zab (hs r (.head _))) ?_;exact d⟩,by refine rl (Zab fun q=>by rw [q,hf] at u;cases u) ?_;exact u⟩,ih (fun r h=>hs r (.tail _ h)) h.2⟩
 exact this (fun r h=>(M.sd r h).1) M.r
theorem Zz8 {l:List R9} {i j:Nat} {x y:R9} (nd:(l.map (·.u)).Nodup) (hi:l[i]? = some x) (hj:l[j]? = some y) (e:x.u=y.u):i=j:=by
 have h1:(l.map (·.u))[i]? = some x.u:=by refine rl (List.getElem?_map) (rl hi ?_);rfl
 have h2:(l.map (·.u))[j]? = some x.u:=by refine rl (List.getElem?_map) (rl hj (rl e ?_));rfl
 obtain ⟨l1,e1⟩:=List.getElem?_eq_some_iff.mp h1
 obtain ⟨l2,e2⟩:=List.getElem?_eq_some_iff.mp h2
 exact (List.getElem_inj nd).mp (e1.trans e2.symm)
theorem Mir.ins {ins:List Str} (M:Mir H fa pa rs F X) (hx:X[j]? = some x) (hr:rs[j]? = some r):Mir (up H r.u (.list (txs ins))) fa pa rs F (X.set j { x with inside:=ins }):=by
 obtain ⟨ef,hf⟩:=M.f
 obtain ⟨epp,hp⟩:=M.p
 obtain ⟨r',hr',t,d,u⟩:=M.row hx
 rw [hr] at hr';obtain rfl:=Option.some.inj hr'
 have k1:∀ a ep es,H a=some (.dict ep es)→up H r.u (.list (txs ins)) a=some (.dict ep es):=fun a ep es h=>by
  rw [Zab fun q=>by rw [q,u] at h;cases h];exact h
 have k2:∀ a l,H a=some (.tuple l)→up H r.u (.list (txs ins)) a=some (.tuple l):=fun a l h=>by
  rw [Zab fun q=>by rw [q,u] at h;cases h];exact h
 refine ⟨⟨ef,k1 _ _ _ hf⟩,⟨epp,by rw [Zq3 (q':={ x with inside:=ins }) hx rfl];exact k1 _ _ _ hp⟩,?_,M.nu,M.sd,M.fp⟩
 have hrs:rs=rs.set j r:=by
  obtain ⟨hl,he⟩:=List.getElem?_eq_some_iff.mp hr
  exact rl (Eq.symm (he ..)) (rl (List.set_getElem_self ..) rfl)
 rw [hrs]
 refine M.r.turn ⟨k2 _ _ t,let ⟨e,d⟩:=d;⟨e,k1 _ _ _ d⟩,Zac⟩ fun i r' x' hi hr' hx' h=>⟨k2 _ _ h.t,let ⟨e,d⟩:=h.d;⟨e,k1 _ _ _ d⟩,?_⟩
 rw [Zab fun q=>hi (Zz8 M.nu hr' hr q)];exact h.u
end
end Mine
end
section
namespace Mine
open L09
theorem U9:HasP L09.P:=⟨⟨rfl,rfl,rfl,rfl,rfl,rfl,rfl,rfl,rfl,rfl,rfl,rfl,rfl,rfl⟩,rfl,rfl⟩
noncomputable def seven:List String:=["NoPurse","NoPact","NotOpen","NoPart","Already","NotAside","TooLittle"]
abbrev S9 (s:String):Str:=Str.ofString s
theorem sub7:∀ cl∈seven,∀ cc∈seven,Zd3 L09.P cl cc=(cc==cl):=by decide +kernel
theorem hsW {g:Gx} {V:VV} {QN:VV→Zaa→Prop} {QR:AV→Zaa→Prop} {E:String→VV→Zaa→Prop} {H:Zaa} {cl:String} {cs:List String} (hP:g.c.P=L09.P) (hc:cl∈seven) (q:QR (.str (S9 cl)) H) (hs:∀ cc∈cs,cc∈seven) (h:cl∈cs):wpHs g (cs.map fun cc=>.mk cc none [.ret (.lit (.str (S9 cc)))]) cl QN QR E V H:=by
 induction cs with
 | nil=>cases h
 | cons cc cs ih =>
  refine rl List.map_cons (rl Zfz (rl Zqn (rl hP (rl (sub7 cl hc cc (hs cc (.head _))) ?_))))
  cases hb:cc==cl with
  | true =>
   (refine Eq.mpr (if_pos rfl) ?_;dsimp only [Zaw,Zbh,Zai];refine rl (beq_iff_eq.mp hb) ?_)
   exact q
  | false =>
   refine Eq.mpr (if_neg Bool.false_ne_true) (ih (fun c hc=>hs c (.tail _ hc)) ?_)
   cases h with
   | head=>rw [beq_self_eq_true] at hb;cases hb
   | tail _ h=>exact h
noncomputable def In7 {α:Type}:Except String α→Prop
 | .ok _=>True
 | .error e=>e∈seven
theorem Zhs {α:Type} {p:Prop} [Decidable p] {x y:Except String α} (h:In7 x) (h':In7 y):In7 (if p then x else y):=by
 by_cases q:p
 ·refine rl (if_pos q) ?_;exact h
 ·refine rl (if_neg q) ?_;exact h'
theorem Zh3 {α:Type} {e:String} (h:seven.contains e=true):In7 (.error e:Except String α):=List.contains_iff_mem.mp h
section
variable {B:Bk} {v w:AV}
theorem Zwn:In7 (Zc6 B v w):=by
 refine Zhs ?_ (Zh3 rfl)
 cases Zbl B w with
 | none=>exact Zh3 rfl
 | some z =>
  refine Zhs ?_ (Zh3 rfl)
  cases lk z.2.parts (Zax v) with
  | none=>exact Zh3 rfl
  | some i=>exact Zhs (Zh3 rfl) (Zhs (Zh3 rfl) trivial)
theorem Zy0:In7 (Zff B v w):=by
 refine Zhs ?_ (Zh3 rfl)
 cases Zbl B w with
 | none=>exact Zh3 rfl
 | some z=>exact Zhs (Zhs trivial (Zh3 rfl)) (Zh3 rfl)
end
noncomputable def way9 (y:Int) (B:Bk) (v w:AV):Except String Bk:=if y=0 then Zc6 B v w else Zff B v w
noncomputable def isS:AV→Bool
 | .str _=>true
 | _=>false
theorem Z0c {P:Pg} {H:Zaa} {v:AV} (h:Kn H v):Zbx P H v "str" = some (isS v):=by
 obtain ⟨⟨k,hk⟩,_⟩:=h
 unfold Zbx
 refine rl (if_pos (.inr (.inr (.inl rfl)))) (rl hk ?_)
 cases v with
 | ref a =>
  unfold Ze4 at hk
  dsimp only at hk
  cases e:H a with
  | none=>rw [e] at hk;cases hk
  | some o=>rw [e] at hk;cases o<;>cases hk<;>rfl
 | _=>obtain rfl:=Option.some.inj hk;rfl
section
variable {c:Cx} (G:Gd c L09.P) {n:Nat} {Q:AV→Zaa→Prop} {E:String→Zaa→Prop} {H:Zaa} {b fa pa:Addr} {B:Bk} {v w:AV} {y tot:Int} {rs:List R9} {pur:List Str} {ks:List (Str×List (Str×Int))}
include G
set_option tactic.hygienic true in
theorem Zuu (hb:H b=some (.book B)) (ok:BkOK B) (kv:Kn H v) (kw:Kn H w) (q:Ends (way9 y B v w) (fun B'=>Q .none (up H b (.book B'))) (fun e=>Q (.str (S9 e)) H)):CallOK c (n+5) true "_law_told" [.ref b,.int y,v,w] Q E H:=by
 refine G.call (F:=L09.f__law_told) rfl rfl ?_
 have hM:c.P.meths=BK.meths:=by refine rl G.hP ?_;rfl
 show wpSs _ _ _ _ _ [some (.ref b),some (.int y),some v,some w,none] _
 refine w_st fun K nx=>?_
 dsimp only [Zdg]
 refine ⟨rfl,?_⟩
 dsimp only [Zaw,Zay,Zan,Zai,Zad,List.getElem?_cons_succ,v_0,c_eq,Zag,beq_iff_eq]
 unfold way9 at q
 split
 ·rename_i h
  rw [if_pos (beq_iff_eq.mp h)] at q
  dsimp only [Zaw,Zam]
  refine Zb6 hM (by decide) (by decide) hb rfl ?_
  refine Zrl G U9 rfl rfl hb kv kw ok ?_
  have er:=Zwn (B:=B) (v:=v) (w:=w)
  revert q er
  cases Zc6 B v w with
  | error cl=>exact fun q er=>hsW (g:=⟨c,n+4,true⟩) (cs:=seven) G.hP er q (fun _ h=>h) er
  | ok B'=>exact fun q _=>⟨show 4<5 by decide,nx _ _ q⟩
 ·rename_i h
  rw [if_neg fun z=>h (beq_iff_eq.mpr z)] at q
  dsimp only [Zaw,Zam]
  refine Zb6 hM (by decide) (by decide) hb rfl ?_
  refine Zyz G U9 rfl rfl rfl hb kv kw ok ?_
  have er:=Zy0 (B:=B) (v:=v) (w:=w)
  revert q er
  cases Zff B v w with
  | error cl=>exact fun q er=>hsW (g:=⟨c,n+4,true⟩) (cs:=seven) G.hP er q (fun _ h=>h) er
  | ok B'=>exact fun q _=>⟨show 4<5 by decide,nx _ _ q⟩
end
end Mine
end
section
namespace Mine
open L09
section
variable {B:Bk} {v w:AV} {tot y:Int} {pur:List Str} {ks:List (Str×List (Str×Int))} {k:Str}
theorem Zc9 (I:Inv pur ks B tot) (np:∀ s∈pur,isNm s=true):Za6 B (.str k)=hs B.free k:=by
 show (isNm k&&hs B.free k)=_
 cases h:hs B.free k with
 | false=>exact rl (Bool.and_false ..) rfl
 | true=>refine rl (np k ((Zbr I.fk).mp h)) ?_;rfl
theorem Zen (I:Inv pur ks B tot):Zbl B (.str k)=pAt B.pacts k:=by
 show (if isNm k=true then pAt B.pacts k else none)=_
 cases h:pAt B.pacts k with
 | none=>rw [ite_self]
 | some e =>
  have:=Zbb (j:=e.1) (q:=e.2) h
  exact rl (if_pos (by rw [← this.2];exact (I.at this.1).nm)) rfl
theorem Zty (h:Za6 B v=false):way9 y B v w = .error "NoPurse":=by
 unfold way9
 exact rl (show Zc6 B v w = .error "NoPurse" from if_neg (by rw [h];decide)) (rl (show Zff B v w = .error "NoPurse" from if_neg (by rw [h];decide)) (rl (ite_self ..) rfl))
theorem Zok (h:Za6 B v=true) (h':Zbl B w=none):way9 y B v w = .error "NoPact":=by
 unfold way9 Zc6 Zff
 exact rl (if_pos h ..) (rl (if_pos h ..) (rl (h' ..) (rl (ite_self ..) rfl)))
theorem Zwx {e:Nat×Pc} (h:Za6 B v=true) (h':Zbl B w=some e) (ho:e.2.state≠.opn):way9 y B v w = .error "NotOpen":=by
 unfold way9 Zc6 Zff
 rw [if_pos h,if_pos h,h']
 dsimp only
 exact rl (if_neg ho ..) (rl (if_neg ho ..) (rl (ite_self ..) rfl))
theorem Ztg {l:List Str} (nd:l.Nodup):l.erase k=l.filter (·≠k):=by
 refine rl (nd.erase_eq_filter ..) ?_
 exact List.filter_congr fun x _=>by by_cases h:x=k<;>simp [h]
theorem Zje {x:Pc} (p:PcOK pur x) (h:k∈x.inside):hs x.parts k=true:=(Zbr rfl).mpr (p.ins k h)
theorem Zjq {H:Zaa} {u:Addr} {l:List AV} {m:BM} (h:H u=some (.list l)) (hm:m = .append∨m = .remove):bmOn m (.ref u) H:=by
 show match H u with | some (.list _)=>_ | some (.dict _ _)=>_ | _=>False
 refine rl h ?_
 rcases hm with rfl | rfl
 ·exact .inl rfl
 ·exact .inr (.inr (.inr (.inr rfl)))
end
section
variable {g:Gx} {V:VV} {H:Zaa} {fa pa:Addr} {rs:List R9} {F:List (Str×Int)} {X:List Pc} {K:VV→Zaa→Prop} {E:String→Zaa→Prop}
theorem Zew {i j:Nat} {k:Str} {a:Int} (M:Mir H fa pa rs F X) (hi:V[i]? = some (some (.ref fa))) (hj:V[j]? = some (some (.str k))) (hl:F.length≤1000) (q:∀ H',Mir H' fa pa rs (pt F k a) X→Lk (rs.map (·.u)) H H'→K V H'):wpT g (.sub (.var i) (.var j)) (.int a) V K E H:=by
 obtain ⟨ef,hf⟩:=id M.f
 dsimp only [tsub,Zad]
 refine rl hi ?_
 dsimp only
 refine rl hj ?_
 show match H fa with | some (.dict _ es)=>_ | _=>False
 refine rl hf ?_
 refine ⟨by refine rl Zc4 ?_;exact Nat.le_trans hl (by decide),fun ep=>?_⟩
 refine rl Zfn ?_
 exact q _ M.free (.dict hf)
end
section
variable {c:Cx} (G:Gd c L09.P) {n:Nat} {Q:AV→Zaa→Prop} {E:String→Zaa→Prop} {H:Zaa} {b fa pa:Addr} {B:Bk} {v w:AV} {y tot:Int} {rs:List R9} {pur:List Str} {ks:List (Str×List (Str×Int))}
theorem Zuf {g:Gx} {V:VV} {i j:Nat} {v:AV} {d:Addr} {K:VV→Zaa→Prop} {QR:AV→Zaa→Prop} {EE:String→VV→Zaa→Prop} {e:Str} {p:Str→Bool} (kv:Kn H v) (hi:V[i]? = some (some v)) (hj:V[j]? = some (some (.ref d))) (hw:∀ k (Q:AV→Zaa→Prop),v = .str k→Q (.bool (p k != true)) H→win true (.str k) (.ref d) Q H)
  (q1:isS v=false→QR (.str e) H) (q2:∀ k,v = .str k→p k=false→QR (.str e) H) (q3:∀ k,v = .str k→p k=true→K V H):wpS g (.ite (.ao false [(.not (.isinst (.var i) "str")),(.cmp .NotIn (.var i) (.var j))]) [.ret (.lit (.str e))] []) K QR EE V H:=by
 dsimp only [Zay,x_ao,Zav,Za7,Zba,Zbn,Zad,Zan]
 refine rl hi (rl hj ?_)
 dsimp only
 refine rl (Z0c kv) ?_
 dsimp only [Zag]
 cases hs:isS v with
 | false=>exact q1 hs
 | true =>
  obtain ⟨k,rfl⟩:∃ k,v = .str k:=by cases v<;>first | exact ⟨_,rfl⟩ | cases hs
  refine Eq.mpr (if_pos rfl) ?_
  dsimp only [Zd5]
  refine hw k _ rfl ?_
  cases hp:p k with
  | false=>exact q2 k rfl hp
  | true=>exact q3 k rfl hp
include G
theorem Zul (M:Mir H fa pa rs B.free B.pacts) (I:Inv pur ks B tot) (np:∀ s∈pur,isNm s=true) (kv:Kn H v) (kw:Kn H w) (y01:y=0∨y=1) (q:Ends (way9 y B v w) (fun B'=>∀ H',Mir H' fa pa rs B'.free B'.pacts→Lk (rs.map (·.u)) H H'→Q .none H') (fun e=>Q (.str (S9 e)) H)):CallOK c (n+1) true "_law_due" [.ref fa,.ref pa,.int y,v,w] Q E H:=by
 refine G.call (F:=L09.f__law_due) rfl rfl ?_
 refine w_st fun K nx=>?_
 refine Zuf (p:=hs B.free) kv rfl rfl (fun k Q _ h=>Zl6 M.f h) (fun h=>?_) (fun k e h=>?_) fun k e hk=>nx _ _ ?_
 ·have:Za6 B v=false:=by cases v<;>first | rfl | cases h
  rw [Zty this] at q
  exact q
 ·rw [Zty (by refine rl e (rl (Zc9 I np) ?_);exact h)] at q
  exact q
 subst e
 have hpu:Za6 B (.str k)=true:=by refine rl (Zc9 I np) ?_;exact hk
 refine w_st fun K nx=>?_
 refine Zuf (p:=fun s=>(pAt B.pacts s).isSome) kw rfl rfl (fun k Q _ h=>Ziv M h) (fun h=>?_) (fun s e h=>?_) fun s e hsm=>nx _ _ ?_
 ·have:Zbl B w=none:=by cases w<;>first | rfl | cases h
  rw [Zok hpu this] at q
  exact q
 ·have:Zbl B w=none:=by
   refine rl e (rl (Zen I) ?_)
   cases z:pAt B.pacts s with
   | none=>rfl
   | some=>rw [z] at h;contradiction
  rw [Zok hpu this] at q
  exact q
 subst e
 obtain ⟨⟨j,x⟩,hx⟩:=Option.isSome_iff_exists.mp hsm
 have hpv:Zbl B (.str s)=some (j,x):=by refine rl (Zen I) ?_;exact hx
 have hxj:=(Zbb hx).1
 have px:=I.at hxj
 refine w_st fun K nx=>?_
 refine Zc7 M hx fun r hr row=>⟨rfl,?_⟩
 unfold Zb2
 dsimp only
 refine rl row.t ?_
 refine ⟨rfl,nx _ _ ?_⟩
 show wpSs _ _ _ _ _ [some (.ref fa),some (.ref pa),some (.int y),some (.str k),some (.str s),some (.ref r.pd),some (.ref r.u),some (.str x.state.str)] _
 have hu:r.u∈rs.map (·.u):=List.mem_map_of_mem (List.mem_of_getElem? hr)
 refine w_st fun K nx=>?_
 dsimp only [Zay,Zan,Zai,Zad,List.getElem?_cons_succ,v_0,Ze5,Zag,bne_iff_ne,ne_eq]
 by_cases ho:x.state = .opn
 ·refine Eq.mpr (if_neg (by refine rl ho ?_;decide)) (nx _ _ ?_)
  have hF:B.free.length≤1000:=by
   have:=I.pl
   rw [← I.fk,List.length_map] at this
   exact Nat.le_trans this (by decide)
  have hI8:x.inside.length≤1000:=Nat.le_trans (I.ok.inl j x hxj).1 (by decide)
  rcases y01 with rfl | rfl
  ·have q:=(show way9 0 B (.str k) (.str s)=Zc6 B (.str k) (.str s) from rfl)▸q
   unfold Zc6 at q
   rw [if_pos hpu,hpv] at q
   dsimp only at q
   rw [if_pos ho] at q
   refine w_st fun K nx=>?_
   dsimp only [Zay,x_ao,Zav,Za7,Zan,Zd5,Zad,List.getElem?_cons_succ,v_0,Zai,c_eq,Int.reduceBEq,Zag,Bool.false_eq_true,↓dreduceIte]
   refine nx _ _ ?_
   refine w_st fun K nx=>?_
   dsimp only [Zay,Zan,Zai,Zad,List.getElem?_cons_succ,v_0,c_eq,Int.reduceBEq,Zag,Bool.false_eq_true,↓dreduceIte]
   refine nx _ _ ?_
   refine w_st fun K nx=>?_
   dsimp only [Zay,Zan,Zd5,Zad,List.getElem?_cons_succ,v_0]
   refine Zl6 row.d ?_
   dsimp only [Zag]
   cases hp:hs x.parts k with
   | false =>
    rw [show lk x.parts (Zax (.str k))=none by unfold hs at hp;revert hp;show (lk x.parts k).isSome=false→lk x.parts k=none;cases lk x.parts k<;>intro h<;>first | rfl | cases h] at q
    exact q
   | true =>
   rw [show lk x.parts (Zax (.str k))=some (vl x.parts k) from Zep hp] at q
   dsimp only at q
   refine Eq.mpr (if_neg (by decide)) (nx _ _ ?_)
   refine w_st fun K nx=>?_
   dsimp only [Zay,Zan,c_in,Zad,List.getElem?_cons_succ,v_0]
   refine Ziu row.u ?_
   dsimp only [Zag]
   by_cases hin:k∈x.inside
   ·rw [if_pos (show Zax (.str k)∈x.inside from hin)] at q
    refine Eq.mpr (if_pos (by refine rl (decide_eq_true hin) ?_;rfl)) ?_
    exact q
   rw [if_neg (show ¬ Zax (.str k)∈x.inside from hin)] at q
   refine Eq.mpr (if_neg (by refine rl (decide_eq_false hin) ?_;decide)) (nx _ _ ?_)
   refine w_st fun K nx=>?_
   dsimp only [Zay,Zan,Zat,Zad,List.getElem?_cons_succ,v_0]
   refine Zc5 row.d hp (Zc5 M.f hk ?_)
   dsimp only [c_gt,Zag]
   by_cases hlt:Zco B (.str k)<vl x.parts k
   ·rw [if_pos hlt] at q
    exact Eq.mpr (if_pos (decide_eq_true hlt)) q
   rw [if_neg hlt] at q
   refine Eq.mpr (if_neg fun z=>hlt (of_decide_eq_true z)) (nx _ _ ?_)
   refine w_st fun K nx=>?_
   dsimp only [Zar,x_bm,Zae,Zah,Zad,List.getElem?_cons_succ,v_0]
   refine ⟨Zjq row.u (.inl rfl),Zdp row.u (by refine rl Zaj ?_;exact Nat.le_trans hI8 (by decide)) (nx _ _ ?_)⟩
   have M1:=M.ins (ins:=x.inside++[k]) hxj hr
   have K1:Lk (rs.map (·.u)) H (up H r.u (.list (txs (x.inside++[k])))):=.list hu row.u
   refine rl (show txs x.inside++[.str k]=txs (x.inside++[k]) by unfold txs;rw [List.map_append];rfl) ?_
   generalize up H r.u (.list (txs (x.inside++[k])))=H1 at M1 K1
   obtain ⟨r',hr',row1⟩:=M1.row (j:=j) (by exact rl (List.getElem?_set_self (List.getElem?_eq_some_iff.mp hxj).1) rfl)
   rw [hr] at hr';obtain rfl:=Option.some.inj hr'
   refine w_st fun K nx=>?_
   dsimp only [Zam,Zau,Zat,Zad,List.getElem?_cons_succ,v_0]
   refine Zc5 M1.f hk (Zc5 row1.d hp ?_)
   dsimp only [Zdm]
   exact Zew M1 rfl rfl hF fun H2 M2 K2=>nx _ _ (q H2 M2 (K1.tr K2))
  ·have q:=(show way9 1 B (.str k) (.str s)=Zff B (.str k) (.str s) from rfl)▸q
   unfold Zff at q
   rw [if_pos hpu,hpv] at q
   dsimp only at q
   rw [if_pos ho] at q
   refine w_st fun K nx=>?_
   dsimp only [Zay,x_ao,Zav,Za7,Zan,Zd5,Zad,List.getElem?_cons_succ,v_0,Zai,c_eq,Int.reduceBEq,Zag,↓dreduceIte]
   refine Ziu row.u ?_
   by_cases hin:k∈x.inside
   ·rw [if_pos (show Zax (.str k)∈x.inside from hin)] at q
    refine Eq.mpr (if_neg (by refine rl (decide_eq_true hin) ?_;decide)) (nx _ _ ?_)
    refine w_st fun K nx=>?_
    refine w_st fun K nx=>?_
    dsimp only [Zar,x_bm,Zae,Zah,Zad,List.getElem?_cons_succ,v_0]
    refine ⟨Zjq row.u (.inr rfl),?_⟩
    refine rl Zz9 (rl row.u ?_)
    refine ⟨by refine rl Zaj ?_;exact Nat.le_trans hI8 (by decide),x.inside,rfl,hin,nx _ _ ?_⟩
    have M1:=M.ins (ins:=x.inside.erase k) hxj hr
    have K1:Lk (rs.map (·.u)) H (up H r.u (.list (txs (x.inside.erase k)))):=.list hu row.u
    refine rl (show (x.inside.erase k).map AV.str=txs (x.inside.erase k) from rfl) ?_
    generalize up H r.u (.list (txs (x.inside.erase k)))=H1 at M1 K1
    obtain ⟨r',hr',row1⟩:=M1.row (j:=j) (by exact rl (List.getElem?_set_self (List.getElem?_eq_some_iff.mp hxj).1) rfl)
    rw [hr] at hr';obtain rfl:=Option.some.inj hr'
    rw [Ztg px.ind] at M1
    refine w_st fun K nx=>?_
    dsimp only [Zam]
    refine Zc5 M1.f hk (Zc5 (l:=x.parts) row1.d (Zje px hin) ?_)
    dsimp only [Zct]
    exact Zew M1 rfl rfl hF fun H2 M2 K2=>nx _ _ (q H2 M2 (K1.tr K2))
   ·rw [if_neg (show ¬ Zax (.str k)∈x.inside from hin)] at q
    exact Eq.mpr (if_pos (by refine rl (decide_eq_false hin) ?_;rfl)) q
 ·refine Eq.mpr (if_pos (by rw [bne_iff_ne];exact fun z=>ho (by revert z;cases x.state<;>decide))) ?_
  rw [Zwx hpu hpv ho] at q
  exact q
end
end Mine
end
section
namespace Mine
open L09
theorem Z0q {X:List Pc} {ts:List Addr} {k:Str} {v:AV} (h:k ∉ X.map (·.name)):(dP X ts).map (fun e=>if e.1=k then (e.1,v) else e)=dP X ts:=by
 induction X generalizing ts with
 | nil=>cases ts<;>rfl
 | cons q qs ih=>cases ts with
  | nil=>rfl
  | cons a as =>
   show (if q.name=k then _ else _)::(dP qs as).map _=_
   refine rl (if_neg fun e=>h (List.mem_cons.mpr (.inl e.symm))) (rl (ih fun z=>h (List.mem_cons_of_mem _ z)) ?_);rfl
theorem Zy4 {X:List Pc} {ts:List Addr} {j:Nat} {x:Pc} {t:Addr} (hl:ts.length=X.length) (nd:(X.map (·.name)).Nodup) (h:X[j]? = some x):(dP X ts).map (fun e=>if e.1=x.name then (e.1,.ref t) else e)=dP X (ts.set j t):=by
 induction X generalizing ts j with
 | nil=>cases h
 | cons q qs ih=>cases ts with
  | nil=>cases hl
  | cons a as =>
   obtain ⟨n1,n2⟩:=List.nodup_cons.mp nd
   show (if q.name=x.name then (q.name,AV.ref t) else (q.name,AV.ref a))::(dP qs as).map _=_
   cases j with
   | zero =>
    obtain rfl:=Option.some.inj h
    refine rl (if_pos rfl) (rl (Z0q n1) ?_);rfl
   | succ j =>
    have hm:x.name∈qs.map (·.name):=List.mem_map_of_mem (List.mem_of_getElem? h)
    refine rl (if_neg (show ¬ q.name=x.name from fun e=>n1 (by rw [← e] at hm;exact hm))) (rl (ih (Nat.succ.inj hl) n2 h) ?_);rfl
theorem Zy3 {X:List Pc} {ts:List Addr} {k:Str} {j:Nat} {x:Pc} {t:Addr} (hl:ts.length=X.length) (nd:(X.map (·.name)).Nodup) (h:pAt X k=some (j,x)):putS (dP X ts) k (.ref t)=dP X (ts.set j t):=by
 obtain ⟨h1,h2⟩:=Zbb h
 have hlt:j<ts.length:=by refine rl hl ?_;exact (List.getElem?_eq_some_iff.mp h1).1
 unfold putS
 refine rl (Zjm hl) (rl h (rl (if_pos (by show (Option.map AV.ref ts[j]?).isSome=true;rw [List.getElem?_eq_getElem hlt];rfl)) (rl h2.symm ?_)))
 exact Zy4 hl nd h1
theorem Zvo {l:List R9} {j:Nat} {r:R9} (nd:(l.map (·.u)).Nodup) (h:r.u ∉ l.map (·.u)):((l.set j r).map (·.u)).Nodup:=by
 induction l generalizing j with
 | nil=>exact nd
 | cons z l ih =>
  obtain ⟨n1,n2⟩:=List.nodup_cons.mp nd
  cases j with
  | zero=>exact List.nodup_cons.mpr ⟨fun q=>h (.tail _ q),n2⟩
  | succ j =>
   refine List.nodup_cons.mpr ⟨fun q=>?_,ih n2 fun q=>h (.tail _ q)⟩
   obtain ⟨r',hr,e⟩:=List.mem_map.mp q
   rcases List.mem_or_eq_of_mem_set hr with hr | hr
   ·exact n1 (e▸List.mem_map_of_mem hr)
   ·exact h (List.mem_cons.mpr (.inl (hr▸e)))
section
variable {g:Gx} {V:VV} {H:Zaa} {Q:AV→Zaa→Prop} {K:VV→Zaa→Prop} {E:String→Zaa→Prop} {md:Bool} {d:Addr} {l:List (Str×Int)}
theorem Zpa {a i:X} {k:Str} {v:AV} {ep:Nat} {es:List (Str×AV)} (ha:∀ Q,Q (.ref d) H→wpX g a V Q E H) (hi:∀ Q,Q (.str k) H→wpX g i V Q E H) (hd:H d=some (.dict ep es)) (hl:es.length≤1000) (q:∀ ep',K V (up H d (.dict ep' (putS es k v)))):wpT g (.sub a i) v V K E H:=by
 refine ha _ (hi _ ?_)
 show match H d with | some (.dict _ es)=>_ | _=>False
 refine rl hd ?_
 exact ⟨Nat.le_trans hl (by decide),q⟩
theorem Zmb {e:X} (hm:g.md=true) (he:∀ Q,Q (.ref d) H→wpX g e V Q E H) (hd:∃ ep,H d=some (.dict ep (dI l))) (q:∀ H',Ext H H'→Q (.int (sumL l)) H'):wpX g (.prim .sum [.bm e .values []]) V Q E H:=by
 obtain ⟨ep,hd⟩:=hd
 dsimp only [Zal,Zae,Zah,x_bm]
 refine he _ ⟨?_,?_⟩
 ·show match H d with | some (.list _)=>_ | some (.dict _ _)=>_ | _=>False
  refine rl hd ?_;exact .inl rfl
 refine rl Zvp (rl hd ?_)
 intro z hz
 have E1:=Ext.refl.new (o:=.vals d) hz
 dsimp only [Zgg]
 refine ⟨hm,?_⟩
 refine rl Zac ?_
 dsimp only
 refine rl (E1 _ _ hd) ?_
 exact ⟨l.map Prod.snd,by unfold dI;refine rl List.map_map (rl List.map_map ?_);rfl,q _ E1⟩
end
abbrev quay:Str:=S9 "quay"
noncomputable def endD (x:Pc) (st:Sta) (s:Str):Int:=if st = .dn then (if quay=s then sumL x.parts else 0) else if s∈x.inside then sAt x.parts s else 0
inductive Ei (H:Zaa) (fa pa:Addr) (rs:List R9) (F:List (Str×Int)) (X:List Pc) (v1 v2 v3 v4 v5 v6:Option AV) (D:Nat→Str→Int) (i:Nat) (V':VV) (H':Zaa):Prop
 | mk (p7:Option AV) (F':List (Str×Int)) (hV:V'=[some (.ref fa),v1,v2,v3,v4,v5,v6,p7]) (M:Mir H' fa pa rs F' X) (d:Dif F F' (D i)) (k:Lk (rs.map (·.u)) H H')
section
variable {c:Cx} (G:Gd c L09.P) {n:Nat} {Q:AV→Zaa→Prop} {E:String→Zaa→Prop} {H:Zaa} {fa pa:Addr} {rs:List R9} {F:List (Str×Int)} {X:List Pc} {j:Nat} {x:Pc} {k:Str} {st:Sta} {pur:List Str} {r:R9}
theorem Mir.endp {t u:Addr} {ep:Nat} {st:Sta} (M:Mir H fa pa rs F X) (nd:(X.map (·.name)).Nodup) (hx:pAt X k=some (j,x)) (hr:rs[j]? = some r) (hu:H u=none) (ht:up H u (.list []) t=none) :
  Mir (up (up (up H u (.list [])) t (.tuple [.ref r.pd,.ref u,.str st.str])) pa (.dict ep (putS (dP X (rs.map (·.t))) k (.ref t)))) fa pa (rs.set j ⟨t,r.pd,u⟩) F (X.set j (x.end st))∧Lk (rs.map (·.u)) H (up (up (up H u (.list [])) t (.tuple [.ref r.pd,.ref u,.str st.str])) pa (.dict ep (putS (dP X (rs.map (·.t))) k (.ref t))))∧∀ r'∈rs.set j ⟨t,r.pd,u⟩,r'.u∈rs.map (·.u)∨H r'.u=none:=by
 have E1:=Ext.refl.new (o:=.list []) hu
 have E2:=E1.new (o:=.tuple [.ref r.pd,.ref u,.str st.str]) ht
 have hu2:up (up H u (.list [])) t (.tuple [.ref r.pd,.ref u,.str st.str]) u=some (.list []):=Zdf Zac ht
 have ht2:up (up H u (.list [])) t (.tuple [.ref r.pd,.ref u,.str st.str]) t=some (.tuple [.ref r.pd,.ref u,.str st.str]):=Zac
 generalize up (up H u (.list [])) t (.tuple [.ref r.pd,.ref u,.str st.str])=H2 at E2 hu2 ht2
 have M2:=M.kp (.ext E2)
 obtain ⟨ef,hf⟩:=M2.f
 obtain ⟨epp,hp⟩:=M2.p
 have hxj:=(Zbb hx).1
 obtain ⟨r',hr',row⟩:=M2.row hxj
 rw [hr] at hr';obtain rfl:=Option.some.inj hr'
 have hrm:=List.mem_of_getElem? hr
 have kd:∀ a e es,a≠pa→H2 a=some (.dict e es)→up H2 pa (.dict ep (putS (dP X (rs.map (·.t))) k (.ref t))) a=some (.dict e es):=fun a e es ha h=>by refine rl (Zab ha) ?_;exact h
 have kl:∀ a o,o.isD=false→H2 a=some o→up H2 pa (.dict ep (putS (dP X (rs.map (·.t))) k (.ref t))) a=some o:=fun a o ho h=>by
  refine rl (Zab fun q=>by rw [q,hp] at h;obtain rfl:=Option.some.inj h;cases ho) ?_;exact h
 have hun:u ∉ rs.map (·.u):=fun z=>by
  obtain ⟨r',hr',e⟩:=List.mem_map.mp z
  obtain ⟨i,hi,rfl⟩:=List.mem_iff_getElem.mp hr'
  have hix:i<X.length:=by refine rl M.r.len.symm ?_;exact hi
  obtain ⟨r',h1,h2⟩:=M.row (List.getElem?_eq_getElem hix)
  rw [List.getElem?_eq_getElem hi] at h1
  have:=h2.u
  rw [← Option.some.inj h1,e,hu] at this
  contradiction
 refine ⟨⟨⟨ef,kd _ _ _ M.fp hf⟩,⟨ep,?_⟩,?_,Zvo M.nu hun,fun r' h=>?_,M.fp⟩,(Lk.ext E2).tr (.dict hp),fun r' h=>?_⟩
 ·exact rl Zac (rl (Zy3 M.len nd hx) (rl (Zq3 (q':=x.end st) hxj rfl) (rl List.map_set rfl)))
 ·refine M2.r.turn ⟨kl _ _ rfl ht2,?_,kl _ _ rfl hu2⟩ fun i r' x' hi hr' _ h=>?_
  ·obtain ⟨e,d⟩:=row.d
   exact ⟨e,kd _ _ _ (M.sd r hrm).2 d⟩
  ·obtain ⟨e,d⟩:=h.d
   exact ⟨kl _ _ rfl h.t,⟨e,kd _ _ _ (M.sd r' (List.mem_of_getElem? hr')).2 d⟩,kl _ _ rfl h.u⟩
 ·rcases List.mem_or_eq_of_mem_set h with h | h
  ·exact M.sd r' h
  ·refine rl h ?_;exact M.sd r hrm
 ·rcases List.mem_or_eq_of_mem_set h with h | h
  ·exact .inl (List.mem_map_of_mem h)
  ·refine rl h ?_;exact .inr hu
include G
theorem Zm5 (M:Mir H fa pa rs F X) (nd:(X.map (·.name)).Nodup) (hx:pAt X k=some (j,x)) (p:PcOK pur x) (hF:F.map (·.1)=pur) (hq:quay∈pur) (hl:F.length≤1000) (hX:X.length≤1000) (hst:st = .fln∨st = .dn)
  (q:∀ H' rs' F',Mir H' fa pa rs' F' (X.set j (x.end st))→Dif F F' (endD x st)→Lk (rs.map (·.u)) H H'→(∀ r'∈rs',r'.u∈rs.map (·.u)∨H r'.u=none)→Q .none H'):CallOK c (n+1) true "_law_ended" [.ref fa,.ref pa,.str k,.str st.str] Q E H:=by
 refine G.call (F:=L09.f__law_ended) rfl rfl ?_
 have hxj:=(Zbb hx).1
 refine w_st fun K nx=>?_
 refine Zc7 M hx fun r hr row=>⟨rfl,?_⟩
 unfold Zb2
 dsimp only
 rw [row.t]
 refine ⟨rfl,nx _ _ ?_⟩
 refine w_st fun K nx=>?_
 refine ⟨rfl,?_⟩
 dsimp only [Zad,wtg]
 refine Ze3 (xs:=txs x.inside) (by simp only [Zap,row.u]) (Ei H fa pa rs F X (some (.ref pa)) (some (.str k)) (some (.str st.str)) (some (.ref r.pd)) (some (.ref r.u)) (some (.str x.state.str)) fun i s=>if st = .fln∧s∈x.inside.take i then sAt x.parts s else 0) ⟨_,F,rfl,M,Dif.refl.of fun s=>(if_neg fun z=>by rw [List.take_zero] at z;cases z.2).symm,.refl⟩ ?_
 rintro J hJ i V' H' ⟨p7,F',rfl,M',d',k'⟩
 obtain ⟨r',hr',row'⟩:=M'.row hxj
 rw [hr] at hr';obtain rfl:=Option.some.inj hr'
 have hF':F'.length≤1000:=by
  have:=congrArg List.length d'.k
  rw [List.length_map,List.length_map] at this
  rw [this];exact hl
 refine ⟨row'.u.trans row.u.symm,fun hk=>nx _ _ ?_,fun y hy=>⟨show 7<8 by decide,?_⟩⟩
 ·rw [Zaj] at hk
  rw [hk,List.take_length] at d'
  suffices go:∀ H2 F2 p7,Mir H2 fa pa rs F2 X→Dif F F2 (endD x st)→Lk (rs.map (·.u)) H H2→wpSs ⟨c,n,true⟩ (L09.f__law_ended.body.drop 3) (fun _ H=>Q .none H) Q (fun cl _ H=>E cl H) [some (.ref fa),some (.ref pa),some (.str k),some (.str st.str),some (.ref r.pd),some (.ref r.u),some (.str x.state.str),p7] H2 by
   refine w_st fun K nx=>?_
   dsimp only [Zay,Zan,Zai,Zad,List.getElem?_cons_succ,v_0,Zdc,Zag,beq_iff_eq]
   rcases hst with rfl | rfl
   ·refine Eq.mpr (if_neg (by decide)) (nx _ _ (go H' F' _ M' (d'.of fun s=>?_) k'))
    unfold endD
    rw [if_neg (show ¬ Sta.fln = .dn by decide)]
    by_cases h:s∈x.inside
    ·rw [if_pos ⟨rfl,h⟩,if_pos h]
    ·rw [if_neg fun z=>h z.2,if_neg h]
   ·refine Eq.mpr (if_pos (by decide)) ?_
    have hq':hs F' quay=true:=by rw [d'.hs];exact (Zbr hF).mpr hq
    dsimp only [Zaw,Zam,Zau,Zat,Zad,Zai]
    refine Zc5 M'.f hq' (Zmb rfl (fun _ q=>q) row'.d fun H1 E1=>?_)
    have M1:=M'.kp (.ext E1)
    have K1:=k'.tr (.ext E1)
    obtain ⟨ef,hf⟩:=id M1.f
    refine Zpa (fun _ q=>q) (fun _ q=>q) hf (by rw [Zc4];exact hF') fun ep=>?_
    rw [Zfn]
    refine nx _ _ (go _ _ _ M1.free ?_ (K1.tr (.dict hf)))
    refine (d'.trans (Dif.pt (i:=sumL x.parts) hq')).of fun s=>?_
    unfold endD
    exact rl (if_neg (fun z=>by cases z.1) ..) (rl (if_pos rfl ..) (rl (Int.zero_add ..) rfl))
  intro H2 F2 p7 M2 d2 k2
  refine w_st fun K nx=>?_
  intro u hu t ht
  obtain ⟨ep,hp⟩:=M2.p
  refine Zpa (fun _ q=>q) (fun _ q=>q) (Zdf (Zdf hp hu) ht) ?_ fun ep'=>nx _ _ ?_
  ·have:=congrArg List.length (Ztn M2.len)
   rw [List.length_map,List.length_map] at this
   rw [this];exact hX
  ·obtain ⟨m1,m2,m3⟩:=M2.endp (ep:=ep') (st:=st) nd hx hr hu ht
   refine q _ _ F2 m1 d2 (k2.tr m2) fun r' h=>(m3 r' h).imp_right fun e=>k2.g _ e
 ·unfold txs at hy
  rw [List.getElem?_map,Option.map_eq_some_iff] at hy
  obtain ⟨s,hs',rfl⟩:=hy
  have hsm:=List.mem_of_getElem? hs'
  have hsp:=Zje p hsm
  have hsF:hs F' s=true:=by
   rw [d'.hs]
   obtain ⟨e,he,e1⟩:=List.mem_map.mp (p.ins s hsm)
   exact (Zbr hF).mpr (e1▸(p.pm e he).1)
  dsimp only [Zaw,Zay,List.set_cons_succ,List.set_cons_zero,Zan,Zai,Zad,List.getElem?_cons_succ,v_0,Zdc,Zag,beq_iff_eq]
  have tk:x.inside.take (i+1)=x.inside.take i++[s]:=Zc1 hs'
  rcases hst with rfl | rfl
  ·refine Eq.mpr (if_pos (by decide)) ?_
   dsimp only [Zaw,Zam]
   refine Zc5 M'.f hsF (Zc5 row'.d hsp ?_)
   dsimp only [Zct]
   refine Zew M' rfl rfl hF' fun H2 M2 k2=>hJ _ _ _ ⟨_,_,rfl,M2,(d'.trans (Dif.pt (i:=vl x.parts s) hsF)).of fun s'=>?_,k'.tr k2⟩
   rw [tk]
   by_cases e:s=s'
   ·subst e
    have hn:s ∉ x.inside.take i:=fun z=>by
     have:=(List.nodup_append.mp (tk▸p.ind.sublist (List.take_sublist (i+1) x.inside))).2.2 s z s (.head _)
     exact this rfl
    exact rl (if_neg fun z=>hn z.2 ..) (rl (if_pos rfl ..) (rl (if_pos ⟨rfl,List.mem_append_right _ (.head _)⟩ ..) (rl (Int.zero_add ..) (rl (Zl7 p.pk ..) rfl))))
   ·rw [if_neg e,Int.add_zero]
    by_cases z:s'∈x.inside.take i
    ·exact rl (if_pos ⟨rfl,z⟩) (rl (if_pos ⟨rfl,List.mem_append_left _ z⟩) rfl)
    ·exact rl (if_neg fun q=>z q.2) (rl (if_neg fun q=>(List.mem_append.mp q.2).elim z fun q=>e (List.mem_singleton.mp q).symm) rfl)
  ·refine Eq.mpr (if_neg (by decide)) (hJ _ _ _ ⟨_,_,rfl,M',d'.of fun s'=>?_,k'⟩)
   rw [if_neg (fun z=>by cases z.1),if_neg (fun z=>by cases z.1)]
end
end Mine
end
section
namespace Mine
open L09
structure Hp (H:Zaa) (ha:Addr) (us:List Addr) (h f g:Addr) (l:List Str):Prop where
 t:H h=some (.tuple [.ref f,.ref g])
 a:H f=some (.list (txs l))
 b:H g=some (.list (txs l))
 u:f ∉ us
 v:g ∉ us
 m:f≠ha
 n:g≠ha
inductive Hl (H:Zaa) (ha:Addr) (us:List Addr) (N:Nat):Prop
 | mk (hs:List Addr) (l:H ha=some (.list (hs.map .ref))) (len:hs.length≤N) (p:∀ h∈hs,∃ f g l,Hp H ha us h f g l) (n:ha ∉ us)
section
variable {H H':Zaa} {ha:Addr} {us us':List Addr} {N N':Nat}
set_option tactic.hygienic true in
theorem Hl.n (h:Hl H ha us N):ha ∉ us:=by cases h;assumption
set_option tactic.hygienic true in
theorem Hl.at (h:Hl H ha us N):∃ l,H ha=some (.list l):=by cases h;exact ⟨_,by assumption⟩
theorem Hl.le (h:Hl H ha us N) (k:N≤N'):Hl H ha us N':=by
 obtain ⟨hs,h1,h2,h3,n⟩:=h
 exact ⟨hs,h1,Nat.le_trans h2 k,h3,n⟩
theorem Hl.tr (h:Hl H ha us N) (k:∀ a x,x.isD=false→x.isB=false→(x.isL=true→a ∉ us)→H a=some x→H' a=some x) (hu:∀ u∈us',u∈us∨H u=none):Hl H' ha us' N:=by
 obtain ⟨hs,h1,h2,h3,n⟩:=h
 have no:∀ {a o},H a=some o→a ∉ us→a ∉ us':=fun e k z=>(hu _ z).elim k fun q=>by rw [q] at e;contradiction
 refine ⟨hs,k _ _ rfl rfl (fun _=>n) h1,h2,fun h hm=>?_,no h1 n⟩
 obtain ⟨f,g,l,p⟩:=h3 h hm
 exact ⟨f,g,l,k _ _ rfl rfl (fun z=>by contradiction) p.t,k _ _ rfl rfl (fun _=>p.u) p.a,k _ _ rfl rfl (fun _=>p.v) p.b,no p.a p.u,no p.b p.v,p.m,p.n⟩
theorem Hl.lkc (h:Hl H ha us N) (e:Lk us H H') (hu:∀ u∈us',u∈us∨H u=none):Hl H' ha us' N:=h.tr (fun a x d _ l=>e.k a x d l) hu
theorem Hl.lk (h:Hl H ha us N) (e:Lk us H H'):Hl H' ha us N:=h.lkc e fun _ h=>.inl h
theorem Hl.kp (h:Hl H ha us N) (e:Kp H H'):Hl H' ha us N:=h.tr (fun a x _ b _=>e a x b) fun _ h=>.inl h
theorem Hl.chg (h:Hl H ha us N) (hu:∀ u∈us',u∈us∨H u=none):Hl H ha us' N:=h.tr (fun _ _ _ _ _ h=>h) hu
theorem Hl.add {hs:List Addr} {t f g:Addr} {l:List Str} (h1:H ha=some (.list (hs.map .ref))) (h2:hs.length≤N) (h3:∀ h∈hs,∃ f g l,Hp H ha us h f g l) (n:ha ∉ us) (P:Hp H ha us t f g l):Hl (up H ha (.list (hs.map .ref++[.ref t]))) ha us (N+1):=by
 have ka:∀ {a x},a≠ha→H a=some x→up H ha (.list (hs.map .ref++[.ref t])) a=some x:=fun n h=>by refine rl (Zab n) ?_;exact h
 have kt:∀ {h f g l},Hp H ha us h f g l→Hp (up H ha (.list (hs.map .ref++[.ref t]))) ha us h f g l:=fun p=>⟨ka (fun e=>by have:=p.t;rw [e,h1] at this;cases this) p.t,ka p.m p.a,ka p.n p.b,p.u,p.v,p.m,p.n⟩
 refine ⟨hs++[t],by refine rl Zac (rl List.map_append ?_);rfl,by refine rl List.length_append ?_;exact Nat.succ_le_succ h2,fun h hh=>?_,n⟩
 rcases List.mem_append.mp hh with hh | hh
 ·obtain ⟨f,g,l,p⟩:=h3 h hh
  exact ⟨f,g,l,kt p⟩
 ·refine rl (List.mem_singleton.mp hh) ?_
  exact ⟨f,g,l,kt P⟩
theorem Mir.kb {fa pa:Addr} {rs:List R9} {F:List (Str×Int)} {X:List Pc} (M:Mir H fa pa rs F X) (hn:ha ∉ rs.map (·.u)) {l:List AV} (hl:H ha=some (.list l)) (e:Kb ha H H'):Mir H' fa pa rs F X:=by
 obtain ⟨ef,hf⟩:=M.f
 obtain ⟨ep,hp⟩:=M.p
 have nd:∀ {a e es},H a=some (.dict e es)→a≠ha:=fun h q=>by rw [q,hl] at h;cases h
 have nt:∀ {a es},H a=some (.tuple es)→a≠ha:=fun h q=>by rw [q,hl] at h;cases h
 refine ⟨⟨ef,e _ _ (nd hf) hf⟩,⟨ep,e _ _ (nd hp) hp⟩,?_,M.nu,M.sd,M.fp⟩
 have:∀ {rs:List R9} {X},(∀ r∈rs,r.u≠ha)→All2 (Row9 H) rs X→All2 (Row9 H') rs X:=fun {rs X} hs h=>by
  induction rs generalizing X with
  | nil=>cases X with
   | nil=>trivial
   | cons=>exact h.elim
  | cons r rs ih=>cases X with
   | nil=>exact h.elim
   | cons x X =>
    obtain ⟨t,⟨e',d⟩,u⟩:=h.1
    exact ⟨⟨e _ _ (nt t) t,⟨e',e _ _ (nd d) d⟩,e _ _ (hs r (.head _)) u⟩,ih (fun r h=>hs r (.tail _ h)) h.2⟩
 exact this (fun r h q=>hn (q▸List.mem_map_of_mem h)) M.r
end
section
variable {c:Cx} (G:Gd c L09.P) {n:Nat} {Q:AV→Zaa→Prop} {E:String→Zaa→Prop} {H:Zaa} {b fa pa ha:Addr} {B:Bk} {v:AV} {y tot:Int} {rs:List R9} {pur:List Str} {ks:List (Str×List (Str×Int))} {k:Str} {j:Nat} {x:Pc} {F:List (Str×Int)} {X:List Pc}
include G
set_option tactic.hygienic true in
theorem Zd6 (hb:H b=some (.book B)) (ok:BkOK B) (kv:Kn H v)
  (q0:y=0→if Za6 B v then Q (.int (Zco B v)) H else E "NoPurse" H) (q1:y=1→if Za6 B v then Q (.int (Zfh B v)) H else E "NoPurse" H)
  (q2:y=2→match Zbl B v with | some (j,x)=>Q (.str x.state.str) H | none=>E "NoPact" H)
  (q3:y=3→match Zbl B v with | some (j,x)=>∀ z,H z=none→Q (.ref z) (up H z (.list (txs (Zes x)))) | none=>E "NoPact" H)
  (q4:y=4→match Zbl B v with | some (j,x)=>Q (.bool (Zck x)) H | none=>E "NoPact" H)
  (q5:y≠0→y≠1→y≠2→y≠3→y≠4→Zbl B v=none∧E "NoPact" H):CallOK c (n+4) true "_law_answer" [.ref b,.int y,v] Q E H:=by
 refine G.call (F:=L09.f__law_answer) rfl rfl ?_
 have hM:c.P.meths=BK.meths:=by refine rl G.hP ?_;rfl
 show wpSs _ _ _ _ _ [some (.ref b),some (.int y),some v] _
 refine w_st fun K nx=>?_
 dsimp only [Zay,Zan,Zai,Zad,List.getElem?_cons_succ,v_0,c_eq,Zag,beq_iff_eq]
 split
 ·rename_i h
  dsimp only [Zaw,Zbh]
  refine Zb6 hM (by decide) (by decide) hb rfl ?_
  exact Ztd (n:=n) G U9.a hb kv (q0 (beq_iff_eq.mp h))
 rename_i n0
 refine nx _ _ ?_
 refine w_st fun K nx=>?_
 dsimp only [Zay,Zan,Zai,Zad,List.getElem?_cons_succ,v_0,c_eq,Zag,beq_iff_eq]
 split
 ·rename_i h
  dsimp only [Zaw,Zbh]
  refine Zb6 hM (by decide) (by decide) hb rfl ?_
  exact Zrm (n:=n) G U9.a rfl hb kv ok.both (q1 (beq_iff_eq.mp h))
 rename_i n1
 refine nx _ _ ?_
 refine w_st fun K nx=>?_
 dsimp only [Zay,Zan,Zai,Zad,List.getElem?_cons_succ,v_0,c_eq,Zag,beq_iff_eq]
 split
 ·rename_i h
  dsimp only [Zaw,Zbh]
  refine Zb6 hM (by decide) (by decide) hb rfl ?_
  exact Zuz (n:=n) G U9 rfl hb kv (q2 (beq_iff_eq.mp h))
 rename_i n2
 refine nx _ _ ?_
 refine w_st fun K nx=>?_
 dsimp only [Zay,Zan,Zai,Zad,List.getElem?_cons_succ,v_0,c_eq,Zag,beq_iff_eq]
 split
 ·rename_i h
  dsimp only [Zaw,Zbh]
  refine Zb6 hM (by decide) (by decide) hb rfl ?_
  exact Zs6 (n:=n) G U9 rfl hb ok kv (q3 (beq_iff_eq.mp h))
 rename_i n3
 refine nx _ _ ?_
 refine w_st fun K nx=>?_
 dsimp only [Zay,Zan,Zai,Zad,List.getElem?_cons_succ,v_0,c_eq,Zag,beq_iff_eq]
 split
 ·rename_i h
  dsimp only [Zaw,Zbh]
  refine Zb6 hM (by decide) (by decide) hb rfl ?_
  exact Zyq (n:=n) G U9 rfl rfl hb ok kv (q4 (beq_iff_eq.mp h))
 rename_i n4
 refine nx _ _ ?_
 obtain ⟨q,q'⟩:=q5 (fun z=>n0 (beq_iff_eq.mpr z)) (fun z=>n1 (beq_iff_eq.mpr z)) (fun z=>n2 (beq_iff_eq.mpr z)) (fun z=>n3 (beq_iff_eq.mpr z)) (fun z=>n4 (beq_iff_eq.mpr z))
 dsimp only [Zaw,Zbh]
 refine Zb6 hM (by decide) (by decide) hb rfl ?_
 exact Zrs (n:=n) G U9 rfl hb kv q q'
noncomputable def fD (X:List Pc) (k:Str):AV→Option AV
 | .str s=>match pAt X s with
  | some e=>if k∈e.2.inside then some (.int (vl e.2.parts k)) else none
  | none=>none
 | _=>none
omit G in
theorem Zyu (nd:(X.map (·.name)).Nodup):∀ {Y:List Pc},(∀ x∈Y,x∈X)→∃ ns:List Int,(Y.map fun x=>AV.str x.name).filterMap (fD X k)=ns.map .int∧ns.sum=sm Y fun x=>if k∈x.inside then vl x.parts k else 0:=fun {Y} h=>by
 induction Y with
 | nil=>exact ⟨[],rfl,rfl⟩
 | cons x Y ih =>
  obtain ⟨ns,h1,h2⟩:=ih fun x hx=>h x (.tail _ hx)
  obtain ⟨j,hj⟩:=List.mem_iff_getElem?.mp (h x (.head _))
  have hp:pAt X x.name=some (j,x):=Zdj nd hj
  have hf:fD X k (.str x.name)=if k∈x.inside then some (.int (vl x.parts k)) else none:=by unfold fD;dsimp only;rw [hp]
  rw [List.map_cons,List.filterMap_cons,hf]
  by_cases hk:k∈x.inside
  ·refine ⟨vl x.parts k::ns,?_,?_⟩
   ·rw [if_pos hk];rw [h1];rfl
   ·show vl x.parts k+ns.sum=(if k∈x.inside then vl x.parts k else 0)+sm Y _
    exact rl (if_pos hk) (rl h2 rfl)
  ·refine ⟨ns,?_,?_⟩
   ·rw [if_neg hk];exact h1
   ·show ns.sum=(if k∈x.inside then vl x.parts k else 0)+sm Y _
    exact rl (if_neg hk ..) (rl (h2 ..) (rl (Int.zero_add ..) rfl))
end
end Mine
end
section
namespace Mine
open L09
section
variable {c:Cx} (G:Gd c L09.P) {n:Nat} {Q:AV→Zaa→Prop} {E:String→Zaa→Prop} {H:Zaa} {b fa pa ha:Addr} {B:Bk} {v:AV} {y tot:Int} {rs:List R9} {pur:List Str} {ks:List (Str×List (Str×Int))} {k:Str} {j:Nat} {x:Pc}
theorem Zjd {F:List (Str×Int)} {X:List Pc} (M:Mir H fa pa rs F X):Zap H (.ref pa)=some (X.map fun x=>.str x.name):=by
 obtain ⟨ep,hp⟩:=M.p
 unfold Zap
 dsimp only
 rw [hp]
 have:=congrArg (List.map AV.str) (Ztn M.len)
 rw [List.map_map,List.map_map] at this
 exact congrArg some this
theorem Zqa {d:Addr} {l:List (Str×Int)} (h:∃ ep,H d=some (.dict ep (dI l))):Zap H (.ref d)=some (l.map fun e=>.str e.1):=by
 obtain ⟨ep,h⟩:=h
 unfold Zap
 dsimp only
 rw [h]
 show some ((dI l).map fun e=>AV.str e.1)=_
 unfold dI
 rw [List.map_map];rfl
theorem Zle {g:Gx} {V:VV} {F:List (Str×Int)} {X:List Pc} {i l m:Nat} {u:AV} {r:R9} (M:Mir H fa pa rs F X) (hi:V[i]? = some (some (.ref pa))) (hl:V[l]? = some (some (.str k))) (hx:pAt X k=some (j,x)) (hr:rs[j]? = some r) (hm:[AV.ref r.pd,.ref r.u,.str x.state.str][m]? = some u) (q:Q u H):wpX g (.sub (.sub (.var i) (.var l)) (.lit (.int m))) V Q E H:=by
 dsimp only [Zat,Zad,Zai]
 rw [hi]
 rw [hl]
 refine Zc7 M hx fun r' hr' row=>?_
 rw [hr] at hr';obtain rfl:=Option.some.inj hr'
 exact Zjy row.t hm (show 3≤1000 by decide) q
include G
set_option tactic.hygienic true in
theorem Zd4 (M:Mir H fa pa rs B.free B.pacts) (I:Inv pur ks B tot)
  (q0:y=0→hs B.free k=true∧Q (.int (vl B.free k)) H) (q1:y=1→hs B.free k=true∧∀ H',Ext H H'→Q (.int (vl B.aside k)) H')
  (q5:y=5→∀ z H',Ext H H'→H z=none→H' z=some (.list (txs (B.pacts.map (·.name))))→Q (.ref z) H')
  (q2:y=2→∃ j x,pAt B.pacts k=some (j,x)∧Q (.str x.state.str) H)
  (q3:y=3→∃ j x,pAt B.pacts k=some (j,x)∧∀ z H',Ext H H'→H z=none→H' z=some (.list (txs (Zes x)))→Q (.ref z) H')
  (q4:y≠0→y≠1→y≠5→y≠2→y≠3→∃ j x,pAt B.pacts k=some (j,x)∧Q (.bool (Zck x)) H):CallOK c (n+1) true "_law_due_of" [.ref fa,.ref pa,.int y,.str k] Q E H:=by
 refine G.call (F:=L09.f__law_due_of) rfl rfl ?_
 show wpSs _ _ _ _ _ [some (.ref fa),some (.ref pa),some (.int y),some (.str k),none,none,none] _
 have hXl:B.pacts.length≤1000:=Nat.le_trans I.len (by decide)
 refine w_st fun K nx=>?_
 dsimp only [Zay,Zan,Zai,Zad,List.getElem?_cons_succ,v_0,c_eq,Zag,beq_iff_eq]
 split
 ·rename_i h
  obtain ⟨h1,h2⟩:=q0 (beq_iff_eq.mp h)
  exact Zc5 M.f h1 h2
 rename_i n0
 refine nx _ _ ?_
 refine w_st fun K nx=>?_
 dsimp only [Zay,Zan,Zai,Zad,List.getElem?_cons_succ,v_0,c_eq,Zag,beq_iff_eq]
 split
 ·rename_i h
  obtain ⟨h1,h2⟩:=q1 (beq_iff_eq.mp h)
  dsimp only [Zaw,Zbh,Zal,Zae,Zah,Zbf]
  refine ⟨rfl,?_⟩
  dsimp only [Zad]
  show Zk5 _ _ (.ref pa) _
  refine Zdy (xs:=B.pacts.map fun x=>.str x.name) (Zjd M) (by rw [List.length_map];exact Nat.le_trans hXl (by decide)) (fD B.pacts k) (fun s hs nx hnx=>?_) fun z hz=>?_
  ·obtain ⟨x,hxm,rfl⟩:=List.mem_map.mp hs
   obtain ⟨j,hj⟩:=List.mem_iff_getElem?.mp hxm
   have hp:pAt B.pacts x.name=some (j,x):=Zdj I.nm hj
   obtain ⟨r,hr,row⟩:=M.row hj
   have hf:fD B.pacts k (.str x.name)=if k∈x.inside then some (.int (vl x.parts k)) else none:=by unfold fD;dsimp only;rw [hp]
   rw [hf] at hnx
   (refine Eq.mpr (if_neg Bool.false_ne_true) ?_;dsimp only [Zbs,Zan,Zad])
   show wpX _ (.sub (.sub (.var 1) (.var 7)) (.lit (.int (1:Nat)))) [some (.ref fa),some (.ref pa),some (.int y),some (.str k),none,none,none,some (.str x.name)] _ _ _
   refine Zle M rfl rfl hp hr rfl ?_
   dsimp only [c_in]
   refine Ziu row.u ?_
   dsimp only [Zag]
   by_cases hk:k∈x.inside
   ·rw [if_pos hk] at hnx
    refine Eq.mpr (if_pos (by rw [decide_eq_true hk];rfl)) ?_
    dsimp only [Zat]
    show wpX _ (.sub (.sub (.var 1) (.var 7)) (.lit (.int (0:Nat)))) [some (.ref fa),some (.ref pa),some (.int y),some (.str k),none,none,none,some (.str x.name)] _ _ _
    refine Zle M rfl rfl hp hr rfl ?_
    dsimp only [Zad]
    exact Zc5 row.d (Zje (I.at hj) hk) hnx
   ·rw [if_neg hk] at hnx
    exact Eq.mpr (if_neg (by rw [decide_eq_false hk];decide)) hnx
  ·obtain ⟨ns,hn,hs⟩:=Zyu (k:=k) I.nm (Y:=B.pacts) fun _ h=>h
   rw [hn]
   dsimp only [Zgg]
   refine ⟨rfl,?_⟩
   rw [Zac]
   refine ⟨ns,rfl,?_⟩
   rw [hs,show (sm B.pacts fun x=>if k∈x.inside then vl x.parts k else 0)=vl B.aside k by
    rw [I.ah]
    exact Zr3 fun x hx=>by rw [Zin,Zl7 (I.pc x hx).pk]]
   exact h2 _ (Ext.refl.new hz)
 rename_i n1
 refine nx _ _ ?_
 refine w_st fun K nx=>?_
 dsimp only [Zay,Zan,Zai,Zad,List.getElem?_cons_succ,v_0,c_eq,Zag,beq_iff_eq]
 split
 ·rename_i h
  dsimp only [Zaw,Zbh,Zal,Zae,Zah,Zad,List.getElem?_cons_succ,v_0]
  obtain ⟨ep,hp⟩:=M.p
  (dsimp only [Zdt];rw [hp])
  have hks:(dP B.pacts (rs.map (·.t))).map (fun e=>AV.str e.1)=txs (B.pacts.map (·.name)):=by
   rw [← Ztn M.len];unfold txs;rw [List.map_map];rfl
  refine ⟨rfl,?_,fun z hz=>?_⟩
  ·have:=congrArg List.length hks
   rw [List.length_map,Zaj,List.length_map] at this
   rw [this];exact Nat.le_trans hXl (by decide)
  ·rw [hks]
   exact q5 (beq_iff_eq.mp h) z _ (Ext.refl.new hz) hz Zac
 rename_i n5
 refine nx _ _ ?_
 have go:∀ {j x},pAt B.pacts k=some (j,x)→(∀ r,rs[j]? = some r→Row9 H r x→wpSs ⟨c,n,true⟩ (L09.f__law_due_of.body.drop 4) (fun _ H=>Q .none H) Q (fun cl _ H=>E cl H) [some (.ref fa),some (.ref pa),some (.int y),some (.str k),some (.ref r.pd),some (.ref r.u),some (.str x.state.str)] H)→wpSs ⟨c,n,true⟩ (L09.f__law_due_of.body.drop 3) (fun _ H=>Q .none H) Q (fun cl _ H=>E cl H) [some (.ref fa),some (.ref pa),some (.int y),some (.str k),none,none,none] H:=fun {j x} hx q=>by
  refine w_st fun K nx=>?_
  refine Zc7 M hx fun r hr row=>⟨rfl,?_⟩
  unfold Zb2
  dsimp only
  rw [row.t]
  exact ⟨rfl,nx _ _ (q r hr row)⟩
 by_cases y2:y=2
 ·obtain ⟨j,x,hx,h⟩:=q2 y2
  refine go hx fun r hr row=>?_
  refine w_st fun K nx=>?_
  refine Eq.mpr (if_pos (beq_iff_eq.mpr y2)) ?_
  exact h
 by_cases y3:y=3
 ·obtain ⟨j,x,hx,h⟩:=q3 y3
  refine go hx fun r hr row=>?_
  have px:=I.at (Zbb hx).1
  refine w_st fun K nx=>?_
  refine Eq.mpr (if_neg fun z=>y2 (beq_iff_eq.mp z)) (nx _ _ ?_)
  refine w_st fun K nx=>?_
  refine Eq.mpr (if_pos (beq_iff_eq.mpr y3)) ?_
  dsimp only [Zaw,Zbh,Zbf]
  refine ⟨rfl,?_⟩
  dsimp only [Zad]
  show Zk5 _ _ (.ref r.pd) _
  refine Zdy (xs:=x.parts.map fun e=>.str e.1) (Zqa row.d) (by rw [List.length_map];exact Nat.le_trans px.ln.1 (by decide)) (fun v=>if Zax v∈x.inside then some v else none) (fun s hs nx hnx=>?_) fun z hz=>?_
  ·obtain ⟨e,he,rfl⟩:=List.mem_map.mp hs
   (refine Eq.mpr (if_neg Bool.false_ne_true) ?_;dsimp only [Zbs,Zan,Zad])
   dsimp only [c_in]
   refine Ziu row.u ?_
   by_cases hk:e.1∈x.inside
   ·rw [if_pos (show Zax (.str e.1)∈x.inside from hk)] at hnx
    exact Eq.mpr (if_pos (by rw [decide_eq_true hk];rfl)) hnx
   ·rw [if_neg (show ¬ Zax (.str e.1)∈x.inside from hk)] at hnx
    exact Eq.mpr (if_neg (by rw [decide_eq_false hk];decide)) hnx
  ·refine h z _ (Ext.refl.new hz) hz ?_
   rw [Zac]
   congr 2
   unfold Zes
   generalize x.parts=ps
   induction ps with
   | nil=>rfl
   | cons e ps ih =>
    rw [List.map_cons,List.filterMap_cons,List.filter_cons]
    by_cases hk:e.1∈x.inside
    ·rw [if_pos (show Zax (.str e.1)∈x.inside from hk),if_pos (decide_eq_true hk)]
     rw [ih];rfl
    ·rw [if_neg (show ¬ Zax (.str e.1)∈x.inside from hk),if_neg (fun z=>hk (of_decide_eq_true z))]
     exact ih
 ·obtain ⟨j,x,hx,h⟩:=q4 (fun z=>n0 (beq_iff_eq.mpr z)) (fun z=>n1 (beq_iff_eq.mpr z)) (fun z=>n5 (beq_iff_eq.mpr z)) y2 y3
  refine go hx fun r hr row=>?_
  have px:=I.at (Zbb hx).1
  refine w_st fun K nx=>?_
  refine Eq.mpr (if_neg fun z=>y2 (beq_iff_eq.mp z)) (nx _ _ ?_)
  refine w_st fun K nx=>?_
  refine Eq.mpr (if_neg fun z=>y3 (beq_iff_eq.mp z)) (nx _ _ ?_)
  dsimp only [Zaw,Zbh,x_ao,Zav,Za7,Zan,Zal,Zae,Zah,Zad,List.getElem?_cons_succ,v_0,Zai,Zdc,Zag,beq_iff_eq]
  have ho:=Zi2 (x:=x.state)
  by_cases hop:x.state = .opn
  ·refine Eq.mpr (if_pos (by rw [ho,hop];rfl)) ?_
   obtain ⟨e,d⟩:=row.d
   refine Zph row.u (by rw [Zaj];exact Nat.le_trans (I.ok.inl j x (Zbb hx).1).1 (by decide)) ?_
   (dsimp only [Zee];rw [d])
   refine ⟨by rw [Zc4];exact Nat.lt_of_le_of_lt px.ln.1 (by decide),?_⟩
   rw [Zaj,Zc4]
   dsimp only [c_eq]
   have:Zck x=((x.inside.length:Int)==(x.parts.length:Int)):=by
    unfold Zck
    rw [hop]
    show (true&&_)=_
    rw [Bool.true_and]
    by_cases e:x.inside.length=x.parts.length
    ·rw [e,beq_self_eq_true,beq_self_eq_true]
    ·rw [beq_eq_false_iff_ne.mpr e,beq_eq_false_iff_ne.mpr (fun z=>e (by exact Int.natCast_inj.mp z))]
   rw [← this];exact h
  ·have hfb:Zck x=false:=by
    unfold Zck
    rw [show (x.state==.opn)=false from beq_eq_false_iff_ne.mpr hop];rfl
   rw [hfb] at h
   have:(x.state.str==Str.ofString "open")=false:=by rw [ho];exact beq_eq_false_iff_ne.mpr hop
   refine Eq.mpr (if_neg (by rw [this];decide)) ?_
   rw [this];exact h
end
end Mine
end
section
namespace Mine
open L09
section
variable {g:Gx} {V:VV} {QN:VV→Zaa→Prop} {QR:AV→Zaa→Prop} {EE:String→VV→Zaa→Prop} {H:Zaa} {ha f:Addr} {us:List Addr} {N:Nat}
theorem Zmv {i m:Nat} {rest:List S} {l:List Str} (hi:V[i]? = some (some (.ref f))) (hm:V[m]? = some (some (.ref ha))) (Hh:Hl H ha (f::us) N) (hfu:f ∉ us) (hf:H f=some (.list (txs l))) (hl:l.length≤900) (hN:N≤9000) (hus:∀ u∈us,H u≠none)
  (q:∀ H',(∀ a x,a≠ha→a≠f→H a=some x→H' a=some x)→Hl H' ha us (N+1)→wpSs g rest QN QR EE V H') :
  wpSs g (.expr (.bm (.var i) .append [.lit (.str (Str.ofString "more"))])::.expr (.bm (.var m) .append [.tuple [.var i,.prim .list [.var i]]])::rest) QN QR EE V H:=by
 have hfa:ha≠f:=fun e=>Hh.n (e▸.head _)
 refine w_st fun K nx=>?_
 dsimp only [Zar,x_bm,Zad]
 refine rl hi ?_
 refine ⟨Zjq hf (.inl rfl),?_⟩
 dsimp only [Zae,Zai,Zah]
 refine Zdp hf (by refine rl Zaj ?_;exact Nat.le_trans hl (by decide)) (nx _ _ ?_)
 refine rl (show txs l++[.str (Str.ofString "more")]=txs (l++[Str.ofString "more"]) by unfold txs;rw [List.map_append];rfl) ?_
 have H1h:=Hh.lkc (us':=us) (Lk.list (l':=txs (l++[Str.ofString "more"])) (.head _) hf) fun _ h=>.inl (.tail _ h)
 have k1:∀ a x,a≠f→H a=some x→up H f (.list (txs (l++[Str.ofString "more"]))) a=some x:=fun a x h e=>by refine rl (Zab h) ?_;exact e
 have g1:=up_g (H:=H) (d:=f) (o:=.list (txs (l++[Str.ofString "more"])))
 have f1:up H f (.list (txs (l++[Str.ofString "more"]))) f=some (.list (txs (l++[Str.ofString "more"]))):=Zac
 generalize up H f (.list (txs (l++[Str.ofString "more"])))=H1 at H1h k1 f1 g1
 have hl':(l++[Str.ofString "more"]).length≤1000:=by refine rl List.length_append ?_;show l.length+1≤1000;lia
 generalize l++[Str.ofString "more"]=l' at f1 hl'
 obtain ⟨hs,h1,h2,h3,hn⟩:=H1h
 refine w_st fun K nx=>?_
 dsimp only [Zar,x_bm,Zad]
 refine rl hm ?_
 refine ⟨Zjq h1 (.inl rfl),?_⟩
 dsimp only [Zae,Zbj,Zad,Zal]
 refine rl hi ?_
 dsimp only [Zah]
 refine Zja f1 hl' fun z hz=>?_
 intro t ht
 have E2:=(Ext.refl.new (o:=.list (txs l')) hz).new (o:=.tuple [.ref f,.ref z]) ht
 have z2:up (up H1 z (.list (txs l'))) t (.tuple [.ref f,.ref z]) z=some (.list (txs l')):=Zdf Zac ht
 have t2:up (up H1 z (.list (txs l'))) t (.tuple [.ref f,.ref z]) t=some (.tuple [.ref f,.ref z]):=Zac
 generalize up (up H1 z (.list (txs l'))) t (.tuple [.ref f,.ref z])=H2 at E2 z2 t2
 refine Zdp (E2 _ _ h1) (by refine rl (List.length_map ..) ?_;exact Nat.le_trans h2 (Nat.le_trans hN (by decide))) (nx _ _ (q _ (fun a x n1 n2 h=>by refine rl (Zab n1 ..) ?_;exact E2 _ _ (k1 a x n2 h)) (Hl.add (E2 _ _ h1) h2 (fun h hh=>?_) hn ⟨t2,E2 _ _ f1,z2,hfu,fun e=>hus z e (g1 z hz),hfa.symm,(Zke h1 hz).symm⟩)))
 obtain ⟨a1,a2,m,p⟩:=h3 h hh
 exact ⟨a1,a2,m,E2 _ _ p.t,E2 _ _ p.a,E2 _ _ p.b,p.u,p.v,p.m,p.n⟩
end
inductive Vq (B:Bk) (k:Str):Int→AV→Prop
 | f:hs B.free k=true→Vq B k 0 (.int (vl B.free k))
 | a:hs B.free k=true→Vq B k 1 (.int (vl B.aside k))
 | s (j:Nat) (x:Pc):pAt B.pacts k=some (j,x)→Vq B k 2 (.str x.state.str)
 | l (j:Nat) (x:Pc):pAt B.pacts k=some (j,x)→Vq B k 4 (.bool (Zck x))
inductive Lq (B:Bk) (k:Str):Int→List Str→Prop
 | i (j:Nat) (x:Pc):pAt B.pacts k=some (j,x)→Lq B k 3 (Zes x)
 | t:Lq B k 5 (B.pacts.map (·.name))
noncomputable def Ask (B:Bk) (y:Int) (k:Str):Prop:=(∃ v,Vq B k y v)∨∃ l,Lq B k y l
theorem ni {a b:Int} {p:Prop} (h:(a==b)=false) (z:a=b):p:=by rw [z,beq_self_eq_true] at h;contradiction
section
variable {g:Gx} {V:VV} {H:Zaa} {Q:AV→Zaa→Prop} {E:String→Zaa→Prop} {i:Nat} {y a b d:Int}
theorem in2 (hi:V[i]? = some (some (.int y))) (q:∀ H',Ext H H'→Q (.bool (nt false (([PyData.int a,.int b]:List PyData).any fun z=>PyData.eqv z (.int y)))) H'):wpX g (.cmp .In (.var i) (.tuple [.lit (.int a),.lit (.int b)])) V Q E H:=by
 dsimp only [Zan,Zad,Zbj,Zae,Zah,Zai]
 refine rl hi ?_
 intro z hz
 dsimp only [c_in]
 (simp only [Ze7,Zhr];refine rl (show up H z (.tuple [.int a,.int b]) z=some (.tuple [.int a,.int b]) from Zac) ?_)
 exact ⟨.int y,[.int a,.int b],.int y,.cons (.int a) (.cons (.int b) .nil),⟨rfl,Nat.zero_le _⟩,rfl,q _ (Ext.refl.new hz)⟩
theorem in3 (hi:V[i]? = some (some (.int y))) (q:∀ H',Ext H H'→Q (.bool (nt false (([PyData.int a,.int b,.int d]:List PyData).any fun z=>PyData.eqv z (.int y)))) H'):wpX g (.cmp .In (.var i) (.tuple [.lit (.int a),.lit (.int b),.lit (.int d)])) V Q E H:=by
 dsimp only [Zan,Zad,Zbj,Zae,Zah,Zai]
 refine rl hi ?_
 intro z hz
 dsimp only [c_in]
 (simp only [Ze7,Zhr];refine rl (show up H z (.tuple [.int a,.int b,.int d]) z=some (.tuple [.int a,.int b,.int d]) from Zac) ?_)
 exact ⟨.int y,[.int a,.int b,.int d],.int y,.cons (.int a) (.cons (.int b) (.cons (.int d) .nil)),⟨rfl,Nat.zero_le _⟩,rfl,q _ (Ext.refl.new hz)⟩
end
section
variable {c:Cx} (G:Gd c L09.P) {n:Nat} {Q:AV→Zaa→Prop} {E:String→Zaa→Prop} {H:Zaa} {b fa pa ha:Addr} {B:Bk} {v:AV} {y tot:Int} {rs:List R9} {pur:List Str} {ks:List (Str×List (Str×Int))} {k:Str} {N:Nat} {l:List Str}
theorem Zf2 {F:List (Str×Int)} {X:List Pc} (M:Mir H fa pa rs F X):∀ u∈rs.map (·.u),H u≠none:=fun u hu e=>by
 obtain ⟨r,hr,rfl⟩:=List.mem_map.mp hu
 obtain ⟨i,hi,rfl⟩:=List.mem_iff_getElem.mp hr
 have hix:i<X.length:=by refine rl M.r.len.symm ?_;exact hi
 obtain ⟨r',h1,h2⟩:=M.row (List.getElem?_eq_getElem hix)
 rw [List.getElem?_eq_getElem hi] at h1
 have:=h2.u
 rw [← Option.some.inj h1,e] at this
 contradiction
theorem Lq.len (L:Lq B k y l) (I:Inv pur ks B tot):l.length≤900:=by
 cases L with
 | i j x hx =>
  unfold Zes
  refine rl (List.length_map ..) ?_
  exact Nat.le_trans (List.length_filter_le _ _) (Nat.le_trans (I.at (Zbb hx).1).ln.1 (by decide))
 | t=>refine rl (List.length_map ..) ?_;exact Nat.le_trans I.len (by decide)
include G
theorem Zrt {i:Int} (q:Q (.bool true) H):CallOK c (n+1) true "_law_whole" [.int i] Q E H:=by
 refine G.call (F:=BK.f__law_whole) rfl rfl ?_
 exact q
theorem ans9 (W:Vq B k y v) (hb:H b=some (.book B)) (I:Inv pur ks B tot) (np:∀ s∈pur,isNm s=true) (kk:Kv (.str k)) (q:Q v H):CallOK c (n+4) true "_law_answer" [.ref b,.int y,.str k] Q E H:=by
 cases W with
 | f h=>exact Zd6 G hb I.ok kk.kn (fun _=>Eq.mpr (if_pos (by refine rl (Zc9 I np) ?_;exact h)) q) (ni rfl) (ni rfl) (ni rfl) (ni rfl) (fun z=>absurd rfl z)
 | a h=>exact Zd6 G hb I.ok kk.kn (ni rfl) (fun _=>Eq.mpr (if_pos (by refine rl (Zc9 I np) ?_;exact h)) q) (ni rfl) (ni rfl) (ni rfl) (fun _ z=>absurd rfl z)
 | s j x hx=>exact Zd6 G hb I.ok kk.kn (ni rfl) (ni rfl) (fun _=>by refine rl (Zen I) (rl hx ?_);exact q) (ni rfl) (ni rfl) (fun _ _ z=>absurd rfl z)
 | l j x hx=>exact Zd6 G hb I.ok kk.kn (ni rfl) (ni rfl) (ni rfl) (ni rfl) (fun _=>by refine rl (Zen I) (rl hx ?_);exact q) (fun _ _ _ _ z=>absurd rfl z)
theorem due9 (W:Vq B k y v) (M:Mir H fa pa rs B.free B.pacts) (I:Inv pur ks B tot) (q:∀ H',Ext H H'→Q v H'):CallOK c (n+1) true "_law_due_of" [.ref fa,.ref pa,.int y,.str k] Q E H:=by
 have q0:=q H .refl
 cases W with
 | f h=>exact Zd4 G M I (fun _=>⟨h,q0⟩) (ni rfl) (ni rfl) (ni rfl) (ni rfl) (fun z=>absurd rfl z)
 | a h=>exact Zd4 G M I (ni rfl) (fun _=>⟨h,q⟩) (ni rfl) (ni rfl) (ni rfl) (fun _ z=>absurd rfl z)
 | s j x hx=>exact Zd4 G M I (ni rfl) (ni rfl) (ni rfl) (fun _=>⟨_,_,hx,q0⟩) (ni rfl) (fun _ _ _ z=>absurd rfl z)
 | l j x hx=>exact Zd4 G M I (ni rfl) (ni rfl) (ni rfl) (ni rfl) (ni rfl) (fun _ _ _ _ _=>⟨_,_,hx,q0⟩)
theorem dueL (L:Lq B k y l) (M:Mir H fa pa rs B.free B.pacts) (I:Inv pur ks B tot) (q:∀ z H',Ext H H'→H' z=some (.list (txs l))→Q (.ref z) H'):CallOK c (n+1) true "_law_due_of" [.ref fa,.ref pa,.int y,.str k] Q E H:=by
 cases L with
 | i j x hx=>exact Zd4 G M I (ni rfl) (ni rfl) (ni rfl) (ni rfl) (fun _=>⟨_,_,hx,fun z H2 e2 _ h=>q z H2 e2 h⟩) (fun _ _ _ _ z=>absurd rfl z)
 | t=>exact Zd4 G M I (ni rfl) (ni rfl) (fun _ z H2 e2 _ h=>q z H2 e2 h) (ni rfl) (ni rfl) (fun _ _ z=>absurd rfl z)
abbrev Vo (b fa pa:Addr) (y:Int) (k:Str) (ha:Addr) (w:Option AV):VV:=[some (.ref b),some (.ref fa),some (.ref pa),some (.int y),some (.str k),some (.ref ha),w]
theorem Z0j (L:Lq B k y l) (hb:H b=some (.book B)) (I:Inv pur ks B tot) (kk:Kv (.str k)) (q:∀ f H',H f=none→Ext H H'→H' f=some (.list (txs l))→Q (.ref f) H'):wpX ⟨c,n+4,true⟩ (.ite (.cmp .Eq (.var 3) (.lit (.int 5))) (.meth (.var 0) "told" []) (.call "_law_answer" [(.var 0),(.var 3),(.var 4)])) (Vo b fa pa y k ha none) Q E H:=by
 have hM:c.P.meths=BK.meths:=by refine rl G.hP ?_;rfl
 cases L with
 | i j x hx =>
  refine Zd6 G hb I.ok kk.kn (ni rfl) (ni rfl) (ni rfl) (fun _=>?_) (ni rfl) (fun _ _ _ z=>absurd rfl z)
  refine rl (Zen I) (rl hx ?_)
  exact fun f hf=>q f _ hf (Ext.refl.new hf) Zac
 | t =>
  dsimp only [Zbp,Zao,Zae,Zah,Zad,List.getElem?_cons_succ,v_0,Zan,Zai,c_eq,Int.reduceBEq,Zag,↓dreduceIte]
  refine Zb6 hM (by decide) (by decide) hb rfl ?_
  refine Zwy (n:=n+3) G U9.a hb (Nat.le_trans I.len (by decide)) fun f hf=>?_
  refine rl (show (B.pacts.map fun e=>AV.str e.name)=txs (B.pacts.map (·.name)) by unfold txs;rw [List.map_map];rfl) ?_
  exact q f _ hf (Ext.refl.new hf) Zac
theorem Zzk (W:Vq B k y v) (q:∀ H',Ext H H'→Q (.bool true) H'):wpSs ⟨c,n+4,true⟩ (L09.f__law_one_same.body.drop 2) (fun _ H=>Q .none H) Q (fun cl _ H=>E cl H) (Vo b fa pa y k ha (some v)) H:=by
 have t24:∀ {y v},y=2∨y=4∧(∃ w,v = .bool w)→wpSs ⟨c,n+4,true⟩ (L09.f__law_one_same.body.drop 2) (fun _ H=>Q .none H) Q (fun cl _ H=>E cl H) (Vo b fa pa y k ha (some v)) H:=fun {y v} hy=>by
  refine w_st fun K nx=>?_
  refine Eq.mpr (if_neg (by rcases hy with rfl | ⟨rfl,_⟩<;>decide)) (nx _ _ ?_)
  refine w_st fun K nx=>?_
  dsimp only [Zay]
  refine in2 rfl fun H1 E1=>?_
  refine Eq.mpr (if_neg (by rcases hy with rfl | ⟨rfl,_⟩<;>decide +kernel)) (nx _ _ ?_)
  dsimp only [Zaw,Zbh,x_ao,Zav,Za7]
  refine in3 rfl fun H2 E2=>?_
  dsimp only [Zag]
  rcases hy with rfl | ⟨rfl,w,rfl⟩
  ·refine rl (show nt false (([PyData.int 2,.int 3,.int 5]:List PyData).any fun y=>PyData.eqv y (.int 2))=true by decide +kernel) ?_
   exact Eq.mpr (if_neg (by decide)) (q _ (E1.trans E2))
  ·refine rl (show nt false (([PyData.int 2,.int 3,.int 5]:List PyData).any fun y=>PyData.eqv y (.int 4))=false by decide +kernel) ?_
   exact Eq.mpr (if_pos rfl) (q _ (E1.trans E2))
 have t01:∀ {y i:Int},y<2→wpSs ⟨c,n+4,true⟩ (L09.f__law_one_same.body.drop 2) (fun _ H=>Q .none H) Q (fun cl _ H=>E cl H) (Vo b fa pa y k ha (some (.int i))) H:=fun {y i} hy=>by
  refine w_st fun K nx=>?_
  refine Eq.mpr (if_pos (decide_eq_true hy)) ?_
  exact Zrt (n:=n+3) G (q H .refl)
 cases W with
 | f=>exact t01 (by decide)
 | a=>exact t01 (by decide)
 | s=>exact t24 (.inl rfl)
 | l=>exact t24 (.inr ⟨rfl,_,rfl⟩)
omit G in
theorem Vq.kv (W:Vq B k y v):∀ {ne:Bool} {Q:AV→Zaa→Prop} {H:Zaa},Q (.bool (nt ne true)) H→weq ne v v Q H:=fun {ne Q H} q=>by
 cases W with
 | f=>show Q (.bool (nt ne (_==_))) H;refine rl (beq_self_eq_true ..) ?_;exact q
 | a=>show Q (.bool (nt ne (_==_))) H;refine rl (beq_self_eq_true ..) ?_;exact q
 | s=>show Q (.bool (nt ne (_==_))) H;refine rl (beq_self_eq_true ..) ?_;exact q
 | l=>exact Zwv ⟨(fun _ z=>by contradiction),(fun _ z=>by contradiction)⟩ q
theorem Zlk (hb:H b=some (.book B)) (M:Mir H fa pa rs B.free B.pacts) (I:Inv pur ks B tot) (np:∀ s∈pur,isNm s=true) (Hh:Hl H ha (rs.map (·.u)) N) (hN:N≤9000) (A:Ask B y k) (kk:Kv (.str k)) (q:∀ H',Kb ha H H'→Hl H' ha (rs.map (·.u)) (N+1)→Q (.bool true) H') :
  CallOK c (n+5) true "_law_one_same" [.ref b,.ref fa,.ref pa,.int y,.str k,.ref ha] Q E H:=by
 refine G.call (F:=L09.f__law_one_same) rfl rfl ?_
 show wpSs _ _ _ _ _ (Vo b fa pa y k ha none) _
 refine w_st fun K nx=>?_
 rcases A with ⟨v,W⟩ | ⟨l,L⟩
 ·have Hh1:Hl H ha (rs.map (·.u)) (N+1):=Hh.le (Nat.le_succ N)
  refine Eq.mpr (if_neg (by cases W<;>decide)) ?_
  refine ans9 G W hb I np kk ⟨show 6<7 by decide,nx _ _ ?_⟩
  refine w_st fun K nx=>?_
  refine due9 (n:=n+3) G W M I fun H1 E1=>?_
  dsimp only [Ztr]
  refine W.kv ?_
  dsimp only [Zag]
  refine Eq.mpr (if_neg (by decide)) (nx _ _ ?_)
  exact Zzk G W fun H2 E2=>q H2 (.ext (E1.trans E2)) (Hh1.kp (.ext (E1.trans E2)))
 ·refine Z0j G L hb I kk fun f H1 hf e1 f1=>⟨show 6<7 by decide,nx _ _ ?_⟩
  have hfu:f ∉ rs.map (·.u):=fun z=>Zf2 M f z hf
  refine w_st fun K nx=>?_
  dsimp only [Zay,Zan]
  refine dueL (n:=n+3) G L (M.kp (.ext e1)) I fun z H2 e2 hz2=>?_
  dsimp only [Ztr]
  refine Zg1 (e2 _ _ f1) hz2 ?_
  refine rl (decide_eq_true rfl) ?_
  dsimp only [Zag]
  refine Eq.mpr (if_neg (by decide)) (nx _ _ ?_)
  have hy:y=3∨y=5:=by cases L<;>decide
  have hA:Hl H (ha:=ha) (f::rs.map (·.u)) N:=Hh.chg (us':=f::rs.map (·.u)) fun u hu=>by
   rcases List.mem_cons.mp hu with rfl | hu
   ·exact .inr hf
   ·exact .inl hu
  refine w_st fun K nx=>?_
  refine Eq.mpr (if_neg (by rcases hy with rfl | rfl<;>decide)) (nx _ _ ?_)
  refine w_st fun K nx=>?_
  dsimp only [Zay]
  refine in2 rfl fun H3 E3=>?_
  refine Eq.mpr (if_pos (by rcases hy with rfl | rfl<;>decide +kernel)) ?_
  have e3:=(e1.trans e2).trans E3
  refine Zmv (i:=6) (m:=5) rfl rfl (hA.kp (.ext e3)) hfu ((e2.trans E3) _ _ f1) (L.len I) hN (fun u hu h=>Zf2 M u hu (e3.none h)) fun H4 k4 h4=>?_
  refine nx _ _ ?_
  dsimp only [Zaw,Zbh,x_ao,Zav,Za7]
  refine in3 rfl fun H5 E5=>?_
  dsimp only [Zag]
  refine rl (show nt false (([PyData.int 2,.int 3,.int 5]:List PyData).any fun z=>PyData.eqv z (.int y))=true by rcases hy with rfl | rfl<;>decide +kernel) ?_
  refine Eq.mpr (if_neg (by decide)) ?_
  exact q _ (fun a x hx h=>E5 _ _ (k4 a x hx (Zke h hf) (e3 _ _ h))) (h4.kp (.ext E5))
end
end Mine
end
section
namespace Mine
open L09
section
variable {α:Type} {xs:List α}
theorem Zfo {l u t:Option Int} {x:α} (h:x∈Zbz xs l u t):x∈xs:=by
 unfold Zbz at h
 obtain ⟨i,_,hi⟩:=List.mem_filterMap.mp h
 exact List.mem_of_getElem? hi
theorem Zwj {j:Int} {n:Nat} (h:0≤j):sliceBounds (some j) none (some 2) n=(min j n,(n:Int),2):=by
 unfold sliceBounds
 simp only [show ¬ (j<0) from Int.not_lt.mpr h,show ((2:Int) > 0) from by decide,if_true,if_false]
 congr 1
 exact Int.max_eq_right (Int.le_min.mpr ⟨h,Int.natCast_nonneg _⟩)
theorem Zsf {j:Int} (h:0≤j):Zbz xs (some j) none (some 2)=((List.range (if min j xs.length<(xs.length:Int) then ((xs.length:Int) - min j xs.length+2 - 1) / 2 else 0).toNat).map fun (k:Nat)=>(min j xs.length+2*(k:Int)).toNat).filterMap (xs[·]?):=by
 unfold Zbz
 rw [Zwj h]
 unfold sliceRange
 dsimp only
 exact rl (if_pos (by decide)) rfl
noncomputable def Zwi (n:Nat) (s:Int) (v:Option Int) (d:Int):Int:=match v with
 | none=>d
 | some i=>if s > 0 then max 0 (min (if i<0 then i+n else i) n) else max (-1) (min (if i<0 then i+n else i) ((n:Int) - 1))
theorem Zrd {n:Nat} {s d:Int} (v:Option Int) (h0:-1≤d) (h1:d≤(n:Int)):-1≤Zwi n s v d∧Zwi n s v d≤(n:Int):=by
 have n0:=Int.natCast_nonneg n
 cases v with
 | none=>exact ⟨h0,h1⟩
 | some i =>
  unfold Zwi
  dsimp only
  generalize (if i<0 then i+(n:Int) else i)=k
  by_cases q:s > 0
  ·refine rl (if_pos q) ?_
   exact ⟨Int.le_trans (by decide) (Int.le_max_left 0 _),Int.max_le.mpr ⟨n0,Int.min_le_right ..⟩⟩
  ·refine rl (if_neg q) ?_
   exact ⟨Int.le_max_left ..,Int.max_le.mpr ⟨Int.le_trans (by decide) n0,Int.le_trans (Int.min_le_right ..) (Int.sub_le_self _ (by decide))⟩⟩
theorem Zy5 {a b s:Int} {n:Nat} (ha:-1≤a∧a≤n) (hb:-1≤b∧b≤n) (hs:s=1∨s=2∨s = -1):(if s > 0 then (if a<b then (b - a+s - 1) / s else 0) else (if a > b then (a - b - s - 1) / (-s) else 0)).toNat≤n+2:=by
 have go:∀ {x s:Int},0≤x→x≤n+2→(x / s).toNat≤n+2:=fun h0 h1=>Int.toNat_le.mpr (Int.le_trans (Int.ediv_le_self _ h0) h1)
 rcases hs with rfl | rfl | rfl
 ·refine rl (if_pos (by decide)) ?_
  split
  ·exact go (by lia) (by lia)
  ·exact Nat.zero_le _
 ·refine rl (if_pos (by decide)) ?_
  split
  ·exact go (by lia) (by lia)
  ·exact Nat.zero_le _
 ·refine rl (if_neg (by decide)) ?_
  split
  ·exact go (by lia) (by lia)
  ·exact Nat.zero_le _
set_option tactic.hygienic true in
theorem Zfp {l u t:Option Int} (ht:t.getD 1=1∨t.getD 1=2∨t.getD 1 = -1):(Zbz xs l u t).length≤xs.length+2:=by
 unfold Zbz
 refine Nat.le_trans (List.length_filterMap_le _ _) ?_
 unfold sliceRange
 refine rl (List.length_map ..) (rl (List.length_range ..) ?_)
 have n0:=Int.natCast_nonneg xs.length
 have d1:∀ {p:Prop} [Decidable p] {x y:Int},(-1≤x∧x≤xs.length)→(-1≤y∧y≤xs.length)→-1≤(if p then x else y)∧(if p then x else y)≤xs.length:=fun {p _ x y} hx hy=>by split<;>assumption
 have c0:-1≤(0:Int)∧(0:Int)≤xs.length:=⟨by decide,n0⟩
 have c1:-1≤(xs.length:Int) - 1∧(xs.length:Int) - 1≤xs.length:=⟨by lia,by lia⟩
 have c2:-1≤(xs.length:Int)∧(xs.length:Int)≤xs.length:=⟨by lia,Int.le_refl _⟩
 have c3:-1≤(-1:Int)∧(-1:Int)≤xs.length:=⟨Int.le_refl _,by lia⟩
 have e1:=d1 (p:=t.getD 1 > 0) c0 c1
 have e2:=d1 (p:=t.getD 1 > 0) c2 c3
 exact Zy5 (Zrd l e1.1 e1.2) (Zrd u e2.1 e2.2) ht
theorem Zmi (h:0<xs.length):0<(Zbz xs (some 0) none (some 2)).length:=by
 refine rl (Zsf (Int.le_refl 0)) ?_
 refine List.length_pos_of_mem (a:=xs[0]) (List.mem_filterMap.mpr ⟨0,List.mem_map.mpr ⟨0,List.mem_range.mpr ?_,?_⟩,List.getElem?_eq_getElem h⟩)
 ·have h':(0:Int)<xs.length:=Int.natCast_pos.mpr h
  refine rl (show min (0:Int) (xs.length:Int)=0 from Int.min_eq_left (Int.le_of_lt h')) (rl (if_pos h' ..) (rl (Int.sub_zero ..) ?_))
  exact Int.lt_toNat.mpr (Int.le_ediv_of_mul_le (by decide) (by lia))
 ·refine rl (show min (0:Int) (xs.length:Int)=0 from Int.min_eq_left (Int.natCast_nonneg _)) ?_;rfl
end
noncomputable def Asks (H:Zaa) (ts:List Addr) (ys:List Int) (ss:List Str):Prop:=∀ t∈ts,∃ y∈ys,∃ s∈ss,H t=some (.tuple [.int y,.str s])
inductive Cr (H:Zaa) (v0 v1:Option AV) (ys:List Int) (ss:List Str) (k:Nat) (V':VV) (H':Zaa):Prop
 | mk (z:Addr) (ts:List Addr) (p3:Option AV) (hV:V'=[v0,v1,some (.ref z),p3]) (hE:Ext H H') (hz:H' z=some (.list (ts.map .ref))) (hA:Asks H' ts ys ss) (hl:ts.length=k*ss.length)
inductive Cc (H:Zaa) (y:Int) (ss:List Str) (k:Nat) (acc:List AV) (H':Zaa):Prop
 | mk (ts:List Addr) (ha:acc=ts.map .ref) (hE:Ext H H') (hA:Asks H' ts [y] ss) (hl:ts.length=k)
theorem Asks.ext {H H':Zaa} {ts:List Addr} {ys:List Int} {ss:List Str} (h:Asks H ts ys ss) (e:Ext H H'):Asks H' ts ys ss:=fun t ht=>let ⟨y,hy,s,hs,q⟩:=h t ht;⟨y,hy,s,hs,e _ _ q⟩
section
variable {c:Cx} (G:Gd c L09.P) {n:Nat} {Q:AV→Zaa→Prop} {E:String→Zaa→Prop} {H:Zaa} {wa d:Addr} {ys:List Int} {ss:List Str} {y:Int}
theorem Zod {g:Gx} {v0 v2:Option AV} (hmd:g.md=true) (hd:Zap H (.ref d)=some (txs ss)) (hs:ss.length≤100) (q:∀ H' z ts,Ext H H'→H z=none→H' z=some (.list (ts.map .ref))→Asks H' ts [y] ss→ts.length=ss.length→Q (.ref z) H') :
  wpX g (.comp (.tuple [(.var 3),(.var 4)]) 1 false (.var 1) none) [v0,some (.ref d),v2,some (.int y)] Q E H:=by
 obtain ⟨o,ho⟩:∃ o,H d=some o:=by
  cases h:H d with
  | some o=>exact ⟨o,rfl⟩
  | none=>unfold Zap at hd;dsimp only at hd;rw [h] at hd;contradiction
 refine ⟨hmd,txs ss,hd,by refine rl Zaj ?_;exact Nat.le_trans hs (by decide),Cc H y ss,⟨[],rfl,.refl,(fun t ht=>by contradiction),rfl⟩,?_⟩
 rintro k acc H' ⟨ts,rfl,hE,hA,hl⟩
 refine ⟨(hE _ _ ho).trans ho.symm,fun hk a ha=>?_,fun x hx=>?_⟩
 ·rw [Zaj] at hk
  have Ea:=Ext.refl.new (o:=.list (ts.map .ref)) ha
  exact q _ a ts (hE.trans Ea) (hE.none ha) Zac (hA.ext Ea) (hl.trans hk)
 ·unfold txs at hx
  rw [List.getElem?_map,Option.map_eq_some_iff] at hx
  obtain ⟨s,hsk,rfl⟩:=hx
  (refine Eq.mpr (if_neg Bool.false_ne_true) ?_;dsimp only [Zb1];refine Eq.mpr (if_pos rfl) ?_)
  intro t ht
  have Et:=Ext.refl.new (o:=.tuple [.int y,.str s]) ht
  refine ⟨ts++[t],by refine rl List.map_append ?_;rfl,hE.trans Et,fun t' ht'=>?_,by refine rl List.length_append (rl hl ?_);rfl⟩
  rcases List.mem_append.mp ht' with h | h
  ·exact (hA.ext Et) t' h
  ·refine rl (List.mem_singleton.mp h) ?_
   exact ⟨y,.head _,s,List.mem_of_getElem? hsk,Zac⟩
include G
theorem Zir (hw:H wa=some (.list (ys.map .int))) (hd:∀ H',Ext H H'→Zap H' (.ref d)=some (txs ss)) (hs:ss.length≤100) (hy:ys.length≤3) (q:∀ H' z ts,Ext H H'→H' z=some (.list (ts.map .ref))→Asks H' ts ys ss→ts.length=ys.length*ss.length→Q (.ref z) H'):CallOK c (n+1) true "_law_crossed" [.ref wa,.ref d] Q E H:=by
 refine G.call (F:=L09.f__law_crossed) rfl rfl ?_
 refine w_st fun K nx=>?_
 intro z0 hz0
 refine ⟨show 2<4 by decide,nx _ _ ?_⟩
 have E0:=Ext.refl.new (o:=.list []) hz0
 have hz1:up H z0 (.list []) z0=some (.list (([]:List Addr).map .ref)):=Zac
 generalize up H z0 (.list [])=H0 at E0 hz1
 refine w_st fun K nx=>?_
 refine ⟨rfl,?_⟩
 dsimp only [Zad]
 show WFor _ _ (.ref wa) _ _
 refine Ze3 (xs:=ys.map .int) (by simp only [Zap,E0 _ _ hw]) (Cr H (some (.ref wa)) (some (.ref d)) ys ss) ⟨z0,[],none,rfl,E0,hz1,(fun t ht=>by contradiction),by refine rl (Nat.zero_mul ..) ?_;rfl⟩ ?_
 rintro J hJ k V' H' ⟨z,ts,p3,rfl,hE,hz,hA,hl⟩
 refine ⟨(hE _ _ hw).trans (E0 _ _ hw).symm,fun hk=>nx _ _ ?_,fun x hx=>⟨show 3<4 by decide,?_⟩⟩
 ·rw [List.length_map] at hk
  exact q H' z ts hE hz hA (by exact rl hl (rl hk rfl))
 ·rw [List.getElem?_map,Option.map_eq_some_iff] at hx
  obtain ⟨y,hyk,rfl⟩:=hx
  have hk:k<ys.length:=(List.getElem?_eq_some_iff.mp hyk).1
  show wpSs _ [_] _ _ _ [some (.ref wa),some (.ref d),some (.ref z),some (.int y)] _
  dsimp only [Zaw,Zam,Zau,Zad]
  refine Zod rfl (hd H' hE) hs fun H2 z2 ts2 E2 _ hz2 hA2 hl2=>?_
  have hb:(ts.map AV.ref).length+(ts2.map AV.ref).length≤1000:=by
   refine rl (List.length_map ..) (rl (List.length_map ..) (rl (hl ..) (rl (hl2 ..) ?_)))
   have:k*ss.length≤3*100:=Nat.mul_le_mul (by lia) hs
   lia
  refine Zhy (E2 _ _ hz) hz2 hb fun z3 hz3=>⟨show 2<4 by decide,hJ _ _ _ ⟨z3,ts++ts2,_,rfl,(hE.trans E2).new hz3,by exact rl Zac (rl List.map_append rfl),fun t ht=>?_,?_⟩⟩
  ·have E3:=Ext.refl.new (o:=.list (ts.map .ref++ts2.map .ref)) hz3
   rcases List.mem_append.mp ht with h | h
   ·exact ((hA.ext E2).ext E3) t h
   ·obtain ⟨y',hy',s,hs',e⟩:=(hA2.ext E3) t h
    rw [List.mem_singleton.mp hy'] at e
    exact ⟨y,List.mem_of_getElem? hyk,s,hs',e⟩
  ·exact rl (List.length_append ..) (rl (hl ..) (rl (hl2 ..) (rl (Nat.succ_mul ..) rfl)))
end
end Mine
end
section
namespace Mine
open L09
theorem Zux {n a b:Nat} (h:n≤51) (ha:a≤n+2) (hb:b≤n+2):a+b≤106:=by lia
theorem Zuw {n a b:Nat} (h:n≤106) (ha:a≤n+2) (hb:b≤n+2):a+b≤216:=by lia
theorem two {x:Int} (h0:0≤x) (h1:x<2):x=0∨x=1:=by lia
noncomputable def GoodL (B:Bk) (H:Zaa) (xs:List AV):Prop:=∀ v∈xs,∃ t y s,v = .ref t∧H t=some (.tuple [.int y,.str s])∧Ask B y s∧Kv (.str s)
section
variable {B:Bk} {H H':Zaa} {xs xs':List AV}
theorem GoodL.ext (h:GoodL B H xs) (e:Ext H H'):GoodL B H' xs:=fun v hv=>let ⟨t,y,s,h1,h2,h3⟩:=h v hv;⟨t,y,s,h1,e _ _ h2,h3⟩
theorem GoodL.app (h:GoodL B H xs) (h':GoodL B H xs'):GoodL B H (xs++xs'):=fun v hv=>(List.mem_append.mp hv).elim (h v) (h' v)
theorem GoodL.sub (h:GoodL B H xs) (k:∀ v∈xs',v∈xs):GoodL B H xs':=fun v hv=>h v (k v hv)
theorem GoodL.asks {ts:List Addr} {ys:List Int} {ss:List Str} (h:Asks H ts ys ss) (k:∀ y∈ys,∀ s∈ss,Ask B y s∧Kv (.str s)):GoodL B H (ts.map .ref):=fun v hv=>by
 obtain ⟨t,ht,rfl⟩:=List.mem_map.mp hv
 obtain ⟨y,hy,s,hs,e⟩:=h t ht
 exact ⟨t,y,s,rfl,e,k y hy s hs⟩
end
theorem Ztu {k:Nat}:(List.replicate k true).all id=true:=by
 induction k with
 | zero=>rfl
 | succ k ih=>exact ih
inductive Sa (H:Zaa) (ha:Addr) (us:List Addr) (N:Nat) (k:Nat) (acc:List AV) (H':Zaa):Prop
 | mk (hK:Kb ha H H') (hh:Hl H' ha us (N+k)) (ha:acc=(List.replicate k true).map .bool)
section
variable {c:Cx} (G:Gd c L09.P) {n:Nat} {Q:AV→Zaa→Prop} {E:String→Zaa→Prop} {H:Zaa} {b fa pa ha:Addr} {B:Bk} {tn tot:Int} {rs:List R9} {pur:List Str} {ks:List (Str×List (Str×Int))} {N:Nat} {z:Addr} {xs:List AV} {v3 v6:Option AV}
include G
theorem Zwm (hb:H b=some (.book B)) (M:Mir H fa pa rs B.free B.pacts) (I:Inv pur ks B tot) (np:∀ s∈pur,isNm s=true) (Hh:Hl H ha (rs.map (·.u)) N) (hz:H z=some (.list xs)) (hza:z≠ha) (hg:GoodL B H xs) (hl:xs.length≤218) (hN:N+218≤9000)
  (q:∀ H',Kb ha H H'→Hl H' ha (rs.map (·.u)) (N+218)→Q (.bool true) H') :
  wpX ⟨c,n+5,true⟩ (.prim .all [(.comp (.call "_law_one_same" [(.var 0),(.var 1),(.var 2),(.var 7),(.var 8),(.var 4)]) 2 true (.var 5) none)]) [some (.ref b),some (.ref fa),some (.ref pa),v3,some (.ref ha),some (.ref z),v6] Q E H:=by
 obtain ⟨_,hl0⟩:=Hh.at
 have tl:∀ {t l},H t=some (.tuple l)→t≠ha:=fun h e=>by rw [e,hl0] at h;cases h
 have nb:b≠ha:=fun e=>by rw [e,hl0] at hb;cases hb
 dsimp only [Zal,Zae,Zah,Zbf,Zad]
 refine ⟨rfl,xs,by simp only [Zap,hz],Nat.le_trans hl (by decide),Sa H ha (rs.map (·.u)) N,⟨.refl,Hh,rfl⟩,?_⟩
 rintro k acc H' ⟨hK,hh,rfl⟩
 refine ⟨(hK _ _ hza hz).trans hz.symm,fun hk a ha'=>?_,fun x hx=>?_⟩
 ·have Ea:=Ext.refl.new (o:=.list ((List.replicate k true).map .bool)) ha'
  dsimp only [Zid]
  refine ⟨rfl,?_⟩
  refine rl Zac ?_
  refine ⟨List.replicate k true,rfl,?_⟩
  refine rl Ztu ?_
  exact q _ (hK.trans (.ext Ea)) ((hh.le (Nat.add_le_add_left (by refine rl hk ?_;exact hl) _)).kp (.ext Ea))
 ·obtain ⟨t,y,s,rfl,ht,hA,hk⟩:=hg x (List.mem_of_getElem? hx)
  have hkl:k<xs.length:=(List.getElem?_eq_some_iff.mp hx).1
  show Zb2 2 (.ref t) H' _
  unfold Zb2
  dsimp only
  refine rl (hK _ _ (tl ht) ht) ?_
  refine ⟨rfl,?_⟩
  (dsimp only [Zb1];refine Eq.mpr (if_pos rfl) ?_)
  refine Zlk (n:=n) G (hK _ _ nb hb) (M.kb Hh.n hl0 hK) I np hh (by lia) hA hk fun H2 k2 h2=>⟨hK.trans k2,h2,?_⟩
  refine rl List.replicate_succ' (rl List.map_append ?_);rfl
theorem Zu3 (hb:H b=some (.book B)) (M:Mir H fa pa rs B.free B.pacts) (I:Inv pur ks B tot) (np:∀ s∈pur,isNm s=true) (Hh:Hl H ha (rs.map (·.u)) N) (hN:N+218≤9000) (hf:B.free.length≤10) (hp:B.pacts.length≤10)
  (q:∀ H',Kb ha H H'→Hl H' ha (rs.map (·.u)) (N+218)→Q (.bool true) H'):CallOK c (n+6) true "_law_same" [.ref b,.ref fa,.ref pa,.int tn,.ref ha] Q E H:=by
 refine G.call (F:=L09.f__law_same) rfl rfl ?_
 show wpSs _ _ _ _ _ [some (.ref b),some (.ref fa),some (.ref pa),some (.int tn),some (.ref ha),none,none] _
 obtain ⟨_,hl0⟩:=Hh.at
 refine w_st fun K nx=>?_
 dsimp only [Zay,Zan,Zai,Zau,Zad,List.getElem?_cons_succ,v_0,Zcq,ne_eq,c_eq,Zag,beq_iff_eq]
 refine ⟨by decide,?_⟩
 split
 ·exact q H .refl (Hh.le (Nat.le_add_right _ _))
 refine nx _ _ ?_
 refine w_st fun K nx=>?_
 dsimp only [Zam,Zau,Zao,Zae,Zaz,Zai,Zah]
 intro w1 hw1
 have E1:=Ext.refl.new (o:=.list [.int 0,.int 1]) hw1
 have hw1':up H w1 (.list [.int 0,.int 1]) w1=some (.list (([0,1]:List Int).map .int)):=Zac
 generalize up H w1 (.list [.int 0,.int 1])=H1 at E1 hw1'
 have fk:∀ {H'},Ext H H'→Zap H' (.ref fa)=some (txs (B.free.map (·.1))):=fun e=>by
  refine rl (Zqa (M.kp (.ext e)).f) ?_;unfold txs;refine rl List.map_map ?_;rfl
 have pk:∀ {H'},Ext H H'→Zap H' (.ref pa)=some (txs (B.pacts.map (·.name))):=fun e=>by
  refine rl (Zjd (M.kp (.ext e))) ?_;unfold txs;refine rl List.map_map ?_;rfl
 refine Zir (n:=n+4) G hw1' (fun H' e=>fk (E1.trans e)) (by refine rl (List.length_map ..) ?_;lia) (by decide) fun H2 z2 ts2 E2 hz2 A2 l2=>?_
 intro t5 ht5 z5 hz5
 have E5:=(Ext.refl.new (o:=.tuple [.int 5,.str (Str.ofString "")]) ht5).new (o:=.list [.ref t5]) hz5
 have t5':up (up H2 t5 (.tuple [.int 5,.str (Str.ofString "")])) z5 (.list [.ref t5]) t5=some (.tuple [.int 5,.str (Str.ofString "")]):=Zdf Zac hz5
 have z5':up (up H2 t5 (.tuple [.int 5,.str (Str.ofString "")])) z5 (.list [.ref t5]) z5=some (.list [.ref t5]):=Zac
 generalize up (up H2 t5 (.tuple [.int 5,.str (Str.ofString "")])) z5 (.list [.ref t5])=H5 at E5 t5' z5'
 rw [List.length_map] at l2
 refine Zhy (E5 _ _ hz2) z5' (by refine rl (List.length_map ..) (rl (l2 ..) ?_);show 2*_+1≤1000;lia) fun z6 hz6=>?_
 have E6:=Ext.refl.new (o:=.list (ts2.map .ref++[.ref t5])) hz6
 have z6':up H5 z6 (.list (ts2.map .ref++[.ref t5])) z6=some (.list (ts2.map .ref++[.ref t5])):=Zac
 generalize up H5 z6 (.list (ts2.map .ref++[.ref t5]))=H6 at E6 z6'
 intro w2 hw2
 have E7:=Ext.refl.new (o:=.list [.int 2,.int 3,.int 4]) hw2
 have hw2':up H6 w2 (.list [.int 2,.int 3,.int 4]) w2=some (.list (([2,3,4]:List Int).map .int)):=Zac
 generalize up H6 w2 (.list [.int 2,.int 3,.int 4])=H7 at E7 hw2'
 have E17:=(((E1.trans E2).trans E5).trans E6).trans E7
 refine Zir (n:=n+4) G hw2' (fun H' e=>pk (E17.trans e)) (by refine rl (List.length_map ..) ?_;lia) (by decide) fun H8 z8 ts8 E8 hz8 A8 l8=>?_
 rw [List.length_map] at l8
 have l2':ts2.length≤20:=by refine rl l2 ?_;show 2*_≤20;lia
 have l8':ts8.length≤30:=by refine rl l8 ?_;show 3*_≤30;lia
 refine Zhy ((E7.trans E8) _ _ z6') hz8 (by refine rl (List.length_append ..) (rl (List.length_map ..) (rl (List.length_map ..) ?_));show _+1+_≤1000;lia) fun z9 hz9=>⟨show 5<7 by decide,nx _ _ ?_⟩
 have E9:=Ext.refl.new (o:=.list (ts2.map .ref++[.ref t5]++ts8.map .ref)) hz9
 have g9:GoodL B (up H8 z9 (.list (ts2.map .ref++[.ref t5]++ts8.map .ref))) (ts2.map .ref++[.ref t5]++ts8.map .ref):=by
  refine GoodL.app (GoodL.app ?_ ?_) ?_
  ·refine (GoodL.asks A2 fun y hy s hsm=>?_).ext (((((E5.trans E6).trans E7).trans E8)).trans E9)
   have hsf:hs B.free s=true:=(Zbr rfl).mpr hsm
   refine ⟨?_,Kv.nm (np s ((Zbr I.fk).mp hsf))⟩
   rcases List.mem_cons.mp hy with rfl | hy
   ·exact .inl ⟨_,.f hsf⟩
   ·refine rl (List.mem_singleton.mp hy) ?_;exact .inl ⟨_,.a hsf⟩
  ·intro v hv
   refine rl (List.mem_singleton.mp hv) ?_
   exact ⟨t5,5,_,rfl,E9 _ _ (E8 _ _ (E7 _ _ (E6 _ _ t5'))),.inr ⟨_,.t⟩,.str (by decide)⟩
  ·refine (GoodL.asks A8 fun y hy s hs=>?_).ext E9
   obtain ⟨⟨j,x⟩,hx⟩:=Zjb hs
   have hxn:=Zbb hx
   refine ⟨?_,Kv.nm (by refine rl hxn.2.symm ?_;exact (I.at hxn.1).nm)⟩
   rcases List.mem_cons.mp hy with rfl | hy
   ·exact .inl ⟨_,.s j x hx⟩
   rcases List.mem_cons.mp hy with rfl | hy
   ·exact .inr ⟨_,.i j x hx⟩
   ·refine rl (List.mem_singleton.mp hy) ?_;exact .inl ⟨_,.l j x hx⟩
 have z9':up H8 z9 (.list (ts2.map .ref++[.ref t5]++ts8.map .ref)) z9=some (.list (ts2.map .ref++[.ref t5]++ts8.map .ref)):=Zac
 have lx:0<(ts2.map AV.ref++[AV.ref t5]++ts8.map AV.ref).length∧(ts2.map AV.ref++[AV.ref t5]++ts8.map AV.ref).length≤51:=by
  refine rl (List.length_append ..) (rl (List.length_append ..) (rl (List.length_map ..) (rl (List.length_map ..) ?_)))
  show 0<_+1+_∧_+1+_≤51
  lia
 have E19:=(E17.trans E8).trans E9
 generalize up H8 z9 (.list (ts2.map .ref++[.ref t5]++ts8.map .ref))=H9 at z9' g9 E19
 generalize ts2.map AV.ref++[AV.ref t5]++ts8.map AV.ref=xs at z9' g9 lx
 clear hw1' hz2 A2 l2 ht5 hz5 t5' z5' hz6 z6' hw2' hz8 A8 l8 hz9 E9 E8 E7 E6 E5 E2 E1 E17 fk pk hw1 hw2
 have j0:=Zcb (x:=tn.fdiv 5) (m:=2) (by decide)
 have j1:=Zcy (x:=tn.fdiv 5) (m:=2) (by decide)
 have ne:0<(Zbz xs (some ((tn.fdiv 5).fmod 2)) none (some 2)++Zbz xs (some (1 - (tn.fdiv 5).fmod 2)) none (some 2)).length:=by
  refine rl List.length_append ?_
  rcases two j0 j1 with e | e
  ·refine rl e ?_;exact Nat.lt_of_lt_of_le (Zmi lx.1) (Nat.le_add_right _ _)
  ·refine rl e ?_;exact Nat.lt_of_lt_of_le (Zmi lx.1) (Nat.le_add_left _ _)
 have la:=Zfp (xs:=xs) (l:=some ((tn.fdiv 5).fmod 2)) (u:=none) (t:=some 2) (.inr (.inl rfl))
 have lb:=Zfp (xs:=xs) (l:=some (1 - (tn.fdiv 5).fmod 2)) (u:=none) (t:=some 2) (.inr (.inl rfl))
 have gg:GoodL B H9 (Zbz xs (some ((tn.fdiv 5).fmod 2)) none (some 2)++Zbz xs (some (1 - (tn.fdiv 5).fmod 2)) none (some 2)):=GoodL.app (g9.sub fun _=>Zfo) (g9.sub fun _=>Zfo)
 refine w_st fun K nx=>?_
 dsimp only [Zam,Zau,List.set_cons_succ,List.set_cons_zero,tv,List.length_cons,List.length_nil,Nat.reduceAdd,Zas,Zb0,Zai,Zb9,Zad,List.getElem?_cons_succ,v_0,Zcl,ne_eq,Zcq,Zdm]
 refine ⟨by decide,by decide,?_⟩
 refine Zei (l:=some ((tn.fdiv 5).fmod 2)) (u:=none) (t:=some 2) z9' rfl rfl rfl (by decide) (by lia) fun za Ha Ea _ ha1=>?_
 refine ⟨by decide,by decide,?_⟩
 refine Zei (l:=some (1 - (tn.fdiv 5).fmod 2)) (u:=none) (t:=some 2) (Ea _ _ z9') rfl rfl rfl (by decide) (by lia) fun zb Hb Eb _ hb1=>?_
 have lc0:=Zux lx.2 la lb
 generalize Zbz xs (some ((tn.fdiv 5).fmod 2)) none (some 2)=s0 at *
 generalize Zbz xs (some (1 - (tn.fdiv 5).fmod 2)) none (some 2)=s1 at *
 refine Zhy (Eb _ _ ha1) hb1 (Nat.le_trans lc0 (by decide)) fun zc hzc=>⟨by decide,nx _ _ ?_⟩
 have Ec:=Ext.refl.new (o:=.list (s0++s1)) hzc
 have zc':up Hb zc (.list (s0++s1)) zc=some (.list (s0++s1)):=Zac
 have gc:=gg.ext ((Ea.trans Eb).trans Ec)
 have E1c:=E19.trans ((Ea.trans Eb).trans Ec)
 have lc:(s0++s1).length≤106:=by refine rl List.length_append ?_;exact lc0
 generalize up Hb zc (.list (s0++s1))=Hc at zc' gc E1c
 generalize s0++s1=ys at zc' gc lc ne
 clear la lb lc0 gg hb1 ha1 Ea Eb Ec hzc g9 z9' lx E19
 have y0:(0:Int)<(ys.length:Nat):=Int.natCast_pos.mpr ne
 refine w_st fun K nx=>?_
 dsimp only [Zam,tv,List.length_cons,List.length_nil,Nat.reduceAdd,List.set_cons_succ,List.set_cons_zero,Zau,Zal,Zae,Zah,Zad,List.getElem?_cons_succ,v_0,Zai,Zcl,ne_eq]
 refine ⟨by decide,Zph zc' (Nat.le_trans lc (by decide)) ⟨Int.ne_of_gt y0,by decide,nx _ _ ?_⟩⟩
 generalize (tn.fdiv 10).fmod (ys.length:Nat)=m
 refine w_st fun K nx=>?_
 dsimp only [Zam,Zas,Zau,tv,List.length_cons,List.length_nil,Nat.reduceAdd,List.set_cons_succ,List.set_cons_zero,Zb0,Zai,Zad,List.getElem?_cons_succ,v_0,Zcl,ne_eq,Zcq,Ze6,Zdm,Zb9]
 refine Zei (l:=some m) (u:=none) (t:=none) zc' rfl rfl rfl (fun e=>by contradiction) (Nat.le_trans lc (by decide)) fun zd Hd Ed _ hd1=>?_
 refine Zei (l:=none) (u:=some m) (t:=none) (Ed _ _ zc') rfl rfl rfl (fun e=>by contradiction) (Nat.le_trans lc (by decide)) fun ze He Ee _ he1=>?_
 have lr:=Zuw lc (Zfp (xs:=ys) (l:=some m) (u:=none) (t:=none) (.inl rfl)) (Zfp (xs:=ys) (l:=none) (u:=some m) (t:=none) (.inl rfl))
 refine Zhy (Ee _ _ hd1) he1 (Nat.le_trans lr (by decide)) fun zf hzf=>?_
 obtain ⟨w1,w2⟩:=Zww (tn.fdiv 1000)
 have Ef:=Ext.refl.new (o:=.list (Zbz ys (some m) none none++Zbz ys none (some m) none)) hzf
 have zf':up He zf (.list (Zbz ys (some m) none none++Zbz ys none (some m) none)) zf=some (.list (Zbz ys (some m) none none++Zbz ys none (some m) none)):=Zac
 have gf:GoodL B (up He zf (.list (Zbz ys (some m) none none++Zbz ys none (some m) none))) (Zbz ys (some m) none none++Zbz ys none (some m) none):=(GoodL.app (gc.sub fun _=>Zfo) (gc.sub fun _=>Zfo)).ext ((Ed.trans Ee).trans Ef)
 have E1f:=E1c.trans ((Ed.trans Ee).trans Ef)
 have lf:(Zbz ys (some m) none none++Zbz ys none (some m) none).length≤216:=by refine rl List.length_append ?_;exact lr
 generalize up He zf (.list (Zbz ys (some m) none none++Zbz ys none (some m) none))=Hf at zf' gf E1f
 generalize Zbz ys (some m) none none++Zbz ys none (some m) none=ws at zf' gf lf
 refine ⟨by decide,by decide,w1,?_⟩
 refine Zei (l:=none) (u:=none) (t:=some (1 - 2*(tn.fdiv 1000).fmod 2)) zf' rfl rfl rfl (fun e=>by have:=Option.some.inj e;lia) (Nat.le_trans lf (by decide)) fun zg Hg Eg hzg hg1=>⟨by decide,nx _ _ ?_⟩
 have lg:=Nat.le_trans (Zfp (xs:=ws) (l:=none) (u:=none) (t:=some (1 - 2*(tn.fdiv 1000).fmod 2)) (w2.imp_right .inr)) (Nat.add_le_add_right lf 2)
 have EH:=E1f.trans Eg
 dsimp only [Zaw,Zbh]
 exact Zwm G (EH _ _ hb) (M.kp (.ext EH)) I np (Hh.kp (.ext EH)) hg1 (Zke (E1f _ _ hl0) hzg).symm ((gf.sub fun _=>Zfo).ext Eg) lg hN fun H' kk hh=>q H' ((Kb.ext EH).trans kk) hh
end
end Mine
end
section
namespace Mine
open L09
abbrev pur9:List Str:=[S9 "quay",S9 "till",S9 "mill"]
theorem Kn.ext {H H':Zaa} {v:AV} (h:Kn H v) (e:Ext H H'):Kn H' v:=by
 obtain ⟨⟨t,ht⟩,hl⟩:=h
 refine ⟨⟨t,?_⟩,hl⟩
 cases v with
 | ref a =>
  unfold Ze4 at ht ⊢
  dsimp only at ht ⊢
  cases h:H a with
  | none=>rw [h] at ht;cases ht
  | some x=>refine rl (e _ _ h) ?_;rw [h] at ht;exact ht
 | _=>exact ht
inductive Qi (H:Zaa) (b:Addr) (v:AV) (zr:Addr) (k:Nat) (V':VV) (H':Zaa):Prop
 | mk (p2 p3:Option AV) (hV:V'=[some (.ref b),some v,p2,p3]) (hE:Ext H H') (hz:H' zr=some (.range 0 6))
section
variable {c:Cx} (G:Gd c L09.P) {n:Nat} {Q:AV→Zaa→Prop} {E:String→Zaa→Prop} {H:Zaa} {b fa pa ha:Addr} {B:Bk} {v:AV} {us:List Addr} {N:Nat}
include G
theorem Zej (hb:H b=some (.book B)) (ok:BkOK B) (kv:Kn H v) (h1:Za6 B v=false) (h2:Zbl B v=none) (q:∀ H',Ext H H'→Q (.bool true) H'):CallOK c (n+5) true "_law_questions" [.ref b,v] Q E H:=by
 refine G.call (F:=L09.f__law_questions) rfl rfl ?_
 refine w_st fun K nx=>?_
 refine ⟨rfl,?_⟩
 dsimp only [Zal,wtg,Zae,Zah,Zai]
 refine Zpg (by decide) (by decide) fun zr H1 _ E1 hz=>?_
 refine Zol hz (Qi H b v zr) ⟨_,_,rfl,E1,hz⟩ ?_
 rintro J hJ k V' H' ⟨p2,p3,rfl,hE,hz'⟩
 refine ⟨hz',fun _=>nx _ _ (q H' hE),fun hk=>⟨show 2<4 by decide,?_⟩⟩
 have kb:=hE _ _ hb
 refine w_st fun K nx=>?_
 dsimp only [List.set_cons_succ,List.set_cons_zero,Zam,tv,List.length_cons,List.length_nil,Nat.reduceAdd,Zai]
 refine ⟨by decide,nx _ _ ?_⟩
 refine w_st fun K nx=>?_
 refine ⟨rfl,?_⟩
 dsimp only [Zaw,Zar,Zao]
 have fin:∀ (cl:String) (i:Nat),(k:Int)≤1∧i=0∧cl = "NoPurse"∨1<(k:Int)∧i=1∧cl = "NoPact"→K [some (.ref b),some v,some (.int k),some (.str (S9 cl))] H':=fun cl i h=>by
  refine nx _ _ ?_
  intro z hz2
  have hi:(if 1<(k:Int) then (1:Int) else 0)=(i:Nat):=by
   rcases h with ⟨h,rfl,_⟩ | ⟨h,rfl,_⟩
   ·refine rl (if_neg (Int.not_lt.mpr h)) ?_;rfl
   ·refine rl (if_pos h) ?_;rfl
  show wsub (.ref z) (.int (if decide (1<(k:Int))=true then 1 else 0)) _ _
  refine rl (show (if decide (1<(k:Int))=true then (1:Int) else 0)=(i:Nat) by rw [← hi];by_cases h:1<(k:Int)<;>simp [h]) ?_
  have hv:([.str (Str.ofString "NoPurse"),.str (Str.ofString "NoPact")]:List AV)[i]? = some (.str (S9 cl)):=by
   rcases h with ⟨_,rfl,rfl⟩ | ⟨_,rfl,rfl⟩<;>rfl
  have Ez:=Ext.refl.new (o:=.list [.str (Str.ofString "NoPurse"),.str (Str.ofString "NoPact")]) hz2
  refine Zou Zac hv (show 2≤1000 by decide) ?_
  dsimp only [Ze5,Zag]
  refine Eq.mpr (if_neg (by refine rl (bne_self_eq_false ..) ?_;decide)) ?_
  exact hJ _ _ _ ⟨_,_,rfl,hE.trans Ez,Ez _ _ hz'⟩
 have e1:(k:Int)≤1→wpHs ⟨c,n+4,true⟩ [.mk "NoPurse" none [.assign (.var 3) (.lit (.str (Str.ofString "NoPurse")))],.mk "NoPact" none [.assign (.var 3) (.lit (.str (Str.ofString "NoPact")))]] "NoPurse" K Q (fun cl _ H=>E cl H) [some (.ref b),some v,some (.int k),some (.str (Str.ofString ""))] H':=fun h=>by
  dsimp only [Zfz,Zqn]
  refine rl G.hP ?_
  refine Eq.mpr (if_pos (by decide +kernel)) ?_
  dsimp only [Zaw,Zeg,Zam,tv,List.length_cons,List.length_nil,Nat.reduceAdd,List.set_cons_succ,List.set_cons_zero,Zai]
  exact ⟨by decide,fin "NoPurse" 0 (.inl ⟨h,rfl,rfl⟩)⟩
 have e2:1<(k:Int)→wpHs ⟨c,n+4,true⟩ [.mk "NoPurse" none [.assign (.var 3) (.lit (.str (Str.ofString "NoPurse")))],.mk "NoPact" none [.assign (.var 3) (.lit (.str (Str.ofString "NoPact")))]] "NoPact" K Q (fun cl _ H=>E cl H) [some (.ref b),some v,some (.int k),some (.str (Str.ofString ""))] H':=fun h=>by
  dsimp only [Zfz,Zqn]
  refine rl G.hP ?_
  refine Eq.mpr (if_neg (by decide +kernel)) (Eq.mpr (if_pos (by decide +kernel)) ?_)
  dsimp only [Zaw,Zeg,Zam,tv,List.length_cons,List.length_nil,Nat.reduceAdd,List.set_cons_succ,List.set_cons_zero,Zai]
  exact ⟨by decide,fin "NoPact" 1 (.inr ⟨h,rfl,rfl⟩)⟩
 refine Zd6 (n:=n) G kb ok (kv.ext hE) (fun h=>?_) (fun h=>?_) (fun h=>?_) (fun h=>?_) (fun h=>?_) (fun a0 a1 a2 a3 a4=>⟨h2,e2 (by lia)⟩)
 ·refine rl h1 ?_;exact e1 (by lia)
 ·refine rl h1 ?_;exact e1 (by lia)
 ·refine rl h2 ?_;exact e2 (by lia)
 ·refine rl h2 ?_;exact e2 (by lia)
 ·refine rl h2 ?_;exact e2 (by lia)
theorem Zvy {f d:Addr} {l:List Str} (hf:H f=some (.list (txs l))) (hd:H d=some (.list (txs l))) (Hh:Hl H ha (f::us) N) (hfu:f ∉ us) (hl:l.length≤900) (hN:N≤9000) (hus:∀ u∈us,H u≠none) (q:∀ H',(∀ a x,a≠ha→a≠f→H a=some x→H' a=some x)→Hl H' ha us (N+1)→Q (.bool true) H'):CallOK c (n+1) true "_law_kept" [.ref f,.ref d,.ref ha] Q E H:=by
 refine G.call (F:=L09.f__law_kept) rfl rfl ?_
 show wpSs _ _ _ _ _ [some (.ref f),some (.ref d),some (.ref ha)] _
 refine w_st fun K nx=>?_
 dsimp only [Zay,x_ao,Zav,Za7,Zba,Zbn,Zad,Zan]
 show match Zbx c.P H (.ref f) "list" with | some b=>_ | none=>False
 refine rl (show Zbx c.P H (.ref f) "list" = some true by unfold Zbx Ze4;rw [if_pos (.inr (.inr (.inr rfl)))];dsimp only;rw [hf];rfl) ?_
 dsimp only [Zag]
 refine Eq.mpr (if_pos rfl) ?_
 show wcmp .NotEq (.ref f) (.ref d) _ _
 dsimp only [Ztr]
 refine Zg1 hf hd ?_
 refine rl (decide_eq_true rfl) ?_
 dsimp only [Zag]
 refine Eq.mpr (if_neg (by decide)) (nx _ _ ?_)
 exact Zmv (i:=0) (m:=2) rfl rfl Hh hfu hf hl hN hus fun H' k h=>q H' k h
theorem Znk (hb:H b=some (.book B)) (ok:BkOK B) (h1:Za6 B (.str (S9 "till"))=true) (h2:Zbl B (.str (S9 "seven"))=none) (q:∀ H',Q (.bool true) H'):CallOK c (n+5) true "_law_refused_by_any" [.ref b] Q E H:=by
 refine G.call (F:=L09.f__law_refused_by_any) rfl rfl ?_
 have hM:c.P.meths=BK.meths:=by refine rl G.hP ?_;rfl
 show wpSs _ _ _ _ _ [some (.ref b),none] _
 refine w_st fun K nx=>?_
 dsimp only [Zdg]
 refine ⟨rfl,?_⟩
 dsimp only [Zaw,Zar]
 refine Zb6 hM (by decide) (by decide) hb rfl ?_
 dsimp only [String.reduceAppend,Zae,Zah,Zai]
 refine Zrl G U9 rfl rfl hb (Kv.str (by decide +kernel)).kn (Kv.str (by decide +kernel)).kn ok ?_
 have e:Zc6 B (.str (S9 "till")) (.str (S9 "seven")) = .error "NoPact":=Zok (y:=0) h1 h2
 refine rl e ?_
 show wpHs _ _ "NoPact" _ _ _ _ _
 dsimp only [Zfz,Zqn]
 refine rl G.hP ?_
 refine Eq.mpr (if_pos (by decide +kernel)) ?_
 intro a ha
 refine ⟨show 1<2 by decide,?_⟩
 show match Zbx c.P (up H a (.exc "NoPact")) (.ref a) "ValueError" with | some b=>_ | none=>False
 refine rl (show Zbx c.P (up H a (.exc "NoPact")) (.ref a) "ValueError" = some true by
  unfold Zbx
  rw [if_neg (by decide)]
  dsimp only
  rw [Zac,G.hP]
  rfl) ?_
 exact q _
end
end Mine
end
section
namespace Mine
open L09
set_option tactic.hygienic true in
theorem Zha {x y:Int} (h0:0≤x) (h1:x≤1000):IntMulOk x y:=IntMulOk.of_left (intBits_le_64 (by lia) (by exact Int.lt_of_le_of_lt (by assumption) (by decide)))
theorem f3 {m:Int} {k:Nat} (h0:0≤m) (h1:m<3):(k=(1+m).toNat→1≤k∧k≤3)∧(k<(1+m).toNat→k<3):=by lia
theorem Zya {r un:Int} (u:1≤un) (h0:0≤r) (h1:r<30):1≤(1+r)*un∧(1+r)*un≤30*un:=⟨Int.le_trans u (Int.le_trans (Int.le_of_eq (Int.one_mul un).symm) (Int.mul_le_mul_of_nonneg_right (by lia) (by lia))),Int.mul_le_mul_of_nonneg_right (by lia) (by lia)⟩
theorem pur9_nd:pur9.Nodup:=by decide +kernel
theorem Zcm:∀ s∈pur9,isNm s=true:=by decide +kernel
noncomputable def sig (x:Pc):Str×List (Str×Int)×List (Str×Int)×List Str:=(x.name,x.parts,x.gains,x.needs)
structure Gok (Gs:List (Str×List (Str×Int)×List (Str×Int)×List Str)):Prop where
 g:∀ e∈Gs,e.2.2.1=[(quay,sumL e.2.1)]∧e.2.2.2=[]∧1≤e.2.1.length
section
variable {Gs:List (Str×List (Str×Int)×List (Str×Int)×List Str)} {B B':Bk} {x:Pc} {j:Nat}
theorem Gok.at (h:Gok Gs) (e:B.pacts.map sig=Gs) (hx:x∈B.pacts):x.gains=[(quay,sumL x.parts)]∧x.needs=[]∧1≤x.parts.length:=h.g (sig x) (e▸List.mem_map_of_mem hx)
theorem Zoz {x':Pc} (e:B.pacts.map sig=Gs) (h:B.pacts[j]? = some x) (s:sig x'=sig x) (h':B'.pacts=B.pacts.set j x'):B'.pacts.map sig=Gs:=by refine rl h' (rl (Zgx h s) ?_);exact e
theorem Zvm (h:∀ x∈B.pacts,x.needs=[]) {n:Nat} {l:List Str}:Zcg n B l=(B,l):=by
 have:∀ {ps:List Pc},(∀ x∈ps,x.needs=[])→fAt (Zjl B) ps=none:=fun {ps} h=>by
  induction ps with
  | nil=>rfl
  | cons x ps ih =>
   unfold fAt
   refine rl (if_neg (by unfold Zjl;rw [h x (.head _)];show ¬ (_&&false)=true;rw [Bool.and_false];decide)) (rl (ih fun y hy=>h y (.tail _ hy)) ?_);rfl
 cases n with
 | zero=>rfl
 | succ n=>unfold Zcg Zdq;exact rl (this h) rfl
theorem Zwc {full g:List Str} {nd:Str→List Str} {done:List Str} (hn:full.Nodup) (h:Grt full nd done g) (h0:∀ x∈full,nd x=[]):g=full:=by
 refine h.sub.eq_of_length (Nat.le_antisymm h.sub.length_le (Zpz hn fun k hk=>h.top (fun x=>x∈full) (fun x hx=>⟨hx,fun o ho=>by rw [h0 x hx] at ho;contradiction⟩) k hk))
theorem Zp0 {H:Zaa} {fa pa:Addr} {rs:List R9} {F:List (Str×Int)} {st:Sta} (M:Mir H fa pa rs F (B.pacts.set j (x.end st))) (d:Dif B.free F (endD x st)) (S:Zl5 B B' j x st) (hk:(B.free.map (·.1)).Nodup) (hg:x.gains=[(quay,sumL x.parts)]):Mir H fa pa rs B'.free B'.pacts:=by
 have e:F=B'.free:=by
  refine Zyv (d.k.trans S.f.k.symm) (by rw [d.k];exact hk) fun s=>?_
  rw [d.v,S.f.v]
  congr 1
  unfold endD back
  split
  ·rw [hg]
   rw [Zd8]
   exact rl (Int.add_zero ..) rfl
  ·exact rl Zin rfl
 rw [← e,S.ps];exact M
end
inductive Pb (H:Zaa) (v0 v1:Option AV) (d zr:Addr) (cl un m:Int) (k:Nat) (V':VV) (H':Zaa):Prop
 | mk (rest:Int) (p4:Option AV) (ps:List (Str×Int)) (ep:Nat) (hV:V'=[v0,v1,some (.ref d),some (.int rest),p4]) (hE:Ext H H') (hd:H' d=some (.dict ep (dI ps))) (hk:ps.map (·.1)=cyc pur9 cl k) (hv:∀ e∈ps,1≤e.2∧e.2≤30*un) (hz:H' zr=some (.range 0 m))
section
variable {c:Cx} (G:Gd c L09.P) {n:Nat} {Q:AV→Zaa→Prop} {E:String→Zaa→Prop} {H:Zaa}
include G
theorem Zno {cl un:Int} (u0:1≤un) (q:∀ H' d ps ep,Ext H H'→H d=none→H' d=some (.dict ep (dI ps))→(ps.map (·.1)).Nodup→(∀ e∈ps,e.1∈pur9∧1≤e.2∧e.2≤30*un)→1≤ps.length∧ps.length≤3→Q (.ref d) H'):CallOK c (n+1) true "_law_pact_by" [.int cl,.int un] Q E H:=by
 refine G.call (F:=L09.f__law_pact_by) rfl rfl ?_
 show wpSs _ _ _ _ _ [some (.int cl),some (.int un),none,none,none] _
 refine w_st fun K nx=>?_
 dsimp only [Zam,Zaq]
 intro d hd
 refine ⟨show 2<5 by decide,nx _ _ ?_⟩
 have E1:=Ext.refl.new (o:=.dict 0 []) hd
 have hd1:up H d (.dict 0 []) d=some (.dict 0 (dI [])):=Zac
 generalize up H d (.dict 0 [])=H1 at E1 hd1
 refine w_st fun K nx=>?_
 dsimp only [List.set_cons_succ,List.set_cons_zero,Zam,tv,List.length_cons,List.length_nil,Nat.reduceAdd,Zau,Zai,Zad,v_0,Zcl,ne_eq]
 refine ⟨by decide,by decide,nx _ _ ?_⟩
 refine w_st fun K nx=>?_
 refine ⟨rfl,?_⟩
 dsimp only [Zal,wtg,Zae,Zah,Zau,Zai,Zad,v_0,Zcq,ne_eq,Zct]
 have m0:=Zcb (x:=cl) (m:=3) (by decide)
 have m1:=Zcy (x:=cl) (m:=3) (by decide)
 refine ⟨by decide,Zpg (Int.add_nonneg (by decide) m0) (Int.add_le_add_left (Int.le_of_lt (Int.lt_trans m1 (by decide))) 1 |> fun h=>Int.le_trans h (show (1:Int)+99999≤100000 by decide)) fun zr H2 hzr E2 hz=>?_⟩
 have c3:∀ {k:Nat},k≤3→(cyc pur9 (cl.fdiv 3) k).Nodup:=fun h=>Zq5 pur9_nd h
 refine Zol hz (Pb H (some (.int cl)) (some (.int un)) d zr (cl.fdiv 3) un (1+cl.fmod 3)) ⟨_,_,[],0,rfl,E1.trans E2,E2 _ _ hd1,rfl,(fun e he=>by contradiction),hz⟩ ?_
 rintro J hJ k V' H' ⟨rest,p4,ps,ep,rfl,hE,hd',hk',hv,hz'⟩
 have hl:ps.length=k:=by
  have:=congrArg List.length hk'
  rw [List.length_map] at this
  rw [this];unfold cyc;rw [List.length_map,List.length_range]
 refine ⟨hz',fun hk=>nx _ _ ?_,fun hk=>⟨show 4<5 by decide,?_⟩⟩
 ·dsimp only [Zaw,Zbh,Zad]
  refine q H' d ps ep hE hd hd' (by refine rl (hk' ..) ?_;exact c3 ((f3 m0 m1).1 hk).2) (fun e he=>⟨?_,hv e he⟩) (hl▸(f3 m0 m1).1 hk)
  have:=List.mem_map_of_mem (f:=(·.1)) he
  rw [hk'] at this
  exact Zwf (by decide) this
 ·show wpSs _ _ _ _ _ [some (.int cl),some (.int un),some (.ref d),some (.int rest),some (.int k)] _
  have r0:=Zcb (x:=rest) (m:=30) (by decide)
  have r1:=Zcy (x:=rest) (m:=30) (by decide)
  have hk3:k<3:=(f3 m0 m1).2 hk
  refine w_st fun K nx=>?_
  dsimp only [Zam,Zau]
  refine ⟨by decide,Zha (by lia) (by lia),?_⟩
  intro z hz2
  have Ez:=Ext.refl.new (o:=.list (txs pur9)) hz2
  have hz3:up H' z (.list (txs pur9)) z=some (.list (txs pur9)):=Zac
  refine rl (show (AObj.list [AV.str (Str.ofString "quay"),.str (Str.ofString "till"),.str (Str.ofString "mill")]) = .list (txs pur9) from rfl) ?_
  generalize up H' z (.list (txs pur9))=H3 at Ez hz3
  dsimp only [Zau,Zai,Zad,List.getElem?_cons_succ,v_0,Zcl,ne_eq,Zct,Zcq]
  refine ⟨by decide,by decide,?_⟩
  refine rl (Eq.symm (Int.toNat_of_nonneg (Zcb (x:=cl.fdiv 3+k) (m:=3) (by decide)) ..)) ?_
  refine Zou (v:=.str (Zfm pur9 (cl.fdiv 3) k)) hz3 (by unfold txs;refine rl (List.getElem?_map ..) ?_;exact congrArg (Option.map AV.str) (Zi6 (pur:=pur9) (c:=cl.fdiv 3) (j:=k) (by decide))) (by decide) ?_
  show match H3 d with | some (.dict _ es)=>_ | _=>False
  refine rl (Ez _ _ hd' ..) ?_
  refine ⟨by refine rl (Zc4 ..) (rl (hl ..) ?_);exact Nat.le_trans (Nat.le_of_lt hk3) (by decide),fun ep'=>nx _ _ ?_⟩
  refine rl (Zfn ..) ?_
  have hn:Zfm pur9 (cl.fdiv 3) k ∉ ps.map (·.1):=fun z=>by
   rw [hk'] at z
   have:=c3 (k:=k+1) hk3
   rw [Zjn] at this
   exact (List.nodup_append.mp this).2.2 _ z _ (.head _) rfl
  have hpt:pt ps (Zfm pur9 (cl.fdiv 3) k) ((1+rest.fmod 30)*un)=ps++[(Zfm pur9 (cl.fdiv 3) k,(1+rest.fmod 30)*un)]:=if_neg fun z=>hn ((Zbr rfl).mp z)
  refine rl (hpt ..) ?_
  dsimp only [Zaw,Zeg,Zam,tv,List.length_cons,List.length_nil,Nat.reduceAdd,List.set_cons_succ,List.set_cons_zero,Zau,Zai,Zad,List.getElem?_cons_succ,v_0,Zcl,ne_eq]
  refine ⟨by decide,by decide,?_⟩
  refine hJ _ _ _ ⟨_,_,_,ep',rfl,(hE.trans Ez).own hd,Zac,by refine rl (List.map_append ..) (rl (hk' ..) (rl (Zjn ..) ?_));rfl,fun e he=>?_,by refine rl (Zab fun e=>by rw [e,hd'] at hz';cases hz' ..) ?_;exact Ez _ _ hz'⟩
  rcases List.mem_append.mp he with h | h
  ·exact hv e h
  ·refine rl (List.mem_singleton.mp h ..) ?_
   exact Zya u0 r0 r1
end
end Mine
end
section
namespace Mine
open L09
abbrev Sg:=List (Str×List (Str×Int)×List (Str×Int)×List Str)
noncomputable def Ks (H H':Zaa):Prop:=∀ a x,x.isD=false→x.isL=false→x.isB=false→H a=some x→H' a=some x
section
variable {H H' H'':Zaa} {us us':List Addr} {ha:Addr} {N:Nat}
theorem Ks.trans (x:Ks H H') (y:Ks H' H''):Ks H H'':=fun a o d l b h=>y a o d l b (x a o d l b h)
theorem Ks.kp (e:Kp H H'):Ks H H':=fun a o _ _ b h=>e a o b h
theorem Ks.lk (e:Lk us H H'):Ks H H':=fun a o d l _ h=>e.k a o d (fun z=>by rw [l] at z;contradiction) h
theorem Hl.more (h:Hl H ha us N):Hl H ha us (N+1):=h.le (Nat.le_succ N)
theorem Lk.bk {b:Addr} {B:Bk} (e:Lk us H H') (h:H b=some (.book B)):H' b=some (.book B):=e.k _ _ rfl (fun z=>by contradiction) h
end
inductive L9 (H:Zaa) (b fa pa ha:Addr) (Gs:Sg) (N:Nat):Prop
 | mk (B:Bk) (rs:List R9) (tot:Int) (ks:List (Str×List (Str×Int))) (hb:H b=some (.book B)) (M:Mir H fa pa rs B.free B.pacts) (I:Inv pur9 ks B tot) (sg:B.pacts.map sig=Gs) (h:Hl H ha (rs.map (·.u)) N)
noncomputable def Kq (H:Zaa) (v:AV):Prop:=Kv v∨∃ a l,v = .ref a∧H a=some (.list l)
theorem Kq.kp {H H':Zaa} {v:AV} (h:Kq H v) (e:Kp H H'):Kq H' v:=h.imp_right fun ⟨a,l,h1,h2⟩=>⟨a,l,h1,e _ _ rfl h2⟩
theorem Kq.kn {H:Zaa} {v:AV} (h:Kq H v):Kn H v:=by
 rcases h with h | ⟨a,l,rfl,h⟩
 ·exact h.kn
 ·refine ⟨?_,fun s e=>by contradiction⟩
  unfold Ze4
  dsimp only
  refine rl h ?_;exact ⟨_,rfl⟩
theorem Zrj {B B':Bk} {v w:AV} (h:Zc6 B v w = .ok B'):B'.pacts.map sig=B.pacts.map sig:=by
 unfold Zc6 at h
 have h:=(Zb5 h).2
 cases hp:Zbl B w with
 | none=>rw [hp] at h;cases h
 | some e =>
  rw [hp] at h
  have h:=(Zb5 h).2
  cases hl:lk e.2.parts (Zax v) with
  | none=>rw [hl] at h;cases h
  | some i =>
   rw [hl] at h
   cases (Zer (Zer h).2).2
   exact Zgx (Zce (j:=e.1) (x:=e.2) hp) rfl
theorem Ztk {B B':Bk} {v w:AV} (h:Zff B v w = .ok B'):B'.pacts.map sig=B.pacts.map sig:=by
 unfold Zff at h
 have h:=(Zb5 h).2
 cases hp:Zbl B w with
 | none=>rw [hp] at h;cases h
 | some e =>
  rw [hp] at h
  cases (Zb5 (Zb5 h).2).2
  exact Zgx (Zce (j:=e.1) (x:=e.2) hp) rfl
theorem Zur {y:Int} {B B':Bk} {v w:AV} (h:way9 y B v w = .ok B'):B'.pacts.map sig=B.pacts.map sig:=by
 unfold way9 at h
 split at h
 ·exact Zrj h
 ·exact Ztk h
theorem Zus {y tot:Int} {B B':Bk} {v w:AV} {pur:List Str} {ks:List (Str×List (Str×Int))} (I:Inv pur ks B tot) (h:way9 y B v w = .ok B'):Inv pur ks B' tot:=by
 unfold way9 at h
 split at h
 ·exact I.aside h
 ·exact I.draw h
section
variable {c:Cx} (G:Gd c L09.P) {n:Nat} {Q:AV→Zaa→Prop} {E:String→Zaa→Prop} {H:Zaa} {b fa pa ha:Addr} {B:Bk} {v w:AV} {y tot cl un am:Int} {rs:List R9} {Gs:Sg} {N:Nat}
abbrev Vd (b fa pa:Addr) (cl un:Int) (ha:Addr) (y:Int) (w v:AV) (am:Int):VV:=[some (.ref b),some (.ref fa),some (.ref pa),some (.int cl),some (.int un),some (.ref ha),some (.int y),some w,some v,some (.int am),none,none]
include G
theorem Zy2 (L:L9 H b fa pa ha Gs N) (y01:y=0∨y=1) (kv:Kq H v) (kw:Kq H w) (q:∀ H',L9 H' b fa pa ha Gs (N+1)→Ks H H'→Q (.bool true) H'):wpSs ⟨c,n+5,true⟩ (L09.f__law_deed.body.drop 7) (fun _ H=>Q .none H) Q (fun cl _ H=>E cl H) (Vd b fa pa cl un ha y w v am) H:=by
 obtain ⟨B,rs,tot,ks,hb,M,I,sg,Hh⟩:=L
 refine w_st fun K nx=>?_
 refine Eq.mpr (if_pos (by rcases y01 with rfl | rfl<;>decide)) ?_
 dsimp only [Zaw,Zbh,Zan]
 refine Zuu (n:=n) G hb I.ok kv.kn kw.kn ?_
 cases hw:way9 y B v w with
 | ok B' =>
  have kp:=Kp.up (y:=.book B') hb
  refine Zul (n:=n+4) G (M.kp kp) I Zcm (kv.kp kp).kn (kw.kp kp).kn y01 ?_
  refine rl hw ?_
  refine fun H' M' k'=>Zwv (ne:=false) .none (q H' ⟨B',rs,tot,ks,k'.bk Zac,M',Zus I hw,(Zur hw).trans sg,((Hh.kp kp).lk k').more⟩ ((Ks.kp kp).trans (.lk k')))
 | error e =>
  refine Zul (n:=n+4) G M I Zcm kv.kn kw.kn y01 ?_
  refine rl hw ?_
  show Q (.bool (nt false (S9 e==S9 e))) H
  refine rl (beq_self_eq_true ..) ?_
  exact q H ⟨B,rs,tot,ks,hb,M,I,sg,Hh.more⟩ (.kp .refl)
end
end Mine
end
section
namespace Mine
open L09
theorem Zun {un am:Int} (u1:un≤1000000000000000000000000000) (a1:1≤am) (a2:am≤30*un):Zci (.int am)=true:=decide_eq_true ⟨a1,by lia⟩
theorem Zxx {B:Bk} {k:Str} {j:Nat} {x:Pc} (h:Zbl B (.str k)=some (j,x)) (ho:x.state = .opn) (h0:∀ y∈B.pacts,y.needs=[]):offQ B (.str k) = .ok (Zd2 B j x,[x.name]):=by
 unfold offQ
 rw [h]
 dsimp only
 rw [if_pos ho,Zvm fun y hy=>?_]
 rcases List.mem_or_eq_of_mem_set (show y∈B.pacts.set j _ from hy) with hy | rfl
 ·exact h0 y hy
 ·exact h0 x (List.mem_of_getElem? (Zce h))
section
variable {c:Cx} (G:Gd c L09.P) {n:Nat} {Q:AV→Zaa→Prop} {E:String→Zaa→Prop} {H:Zaa} {b fa pa ha:Addr} {B:Bk} {v w:AV} {y tot cl un am:Int} {rs:List R9} {Gs:Sg} {N:Nat} {k s:Str}
include G
theorem Zm6 (L:L9 H b fa pa ha Gs N) (hy:y=2∨y=3∨y=4) (q:∀ H',L9 H' b fa pa ha Gs (N+1)→Ks H H'→Q (.bool true) H'):wpSs ⟨c,n+5,true⟩ (L09.f__law_deed.body.drop 11) (fun _ H=>Q .none H) Q (fun cl _ H=>E cl H) (Vd b fa pa cl un ha y w v am) H:=by
 obtain ⟨B,rs,tot,ks,hb,M,I,sg,Hh⟩:=L
 have:=q H ⟨B,rs,tot,ks,hb,M,I,sg,Hh.more⟩ (.kp .refl)
 refine w_st fun K nx=>?_
 refine Eq.mpr (if_neg (by rcases hy with rfl | rfl | rfl<;>decide)) (nx _ _ ?_)
 exact this
theorem Zkv (L:L9 H b fa pa ha Gs N) (hy:y=2∨y=3) (q:∀ H',L9 H' b fa pa ha Gs (N+1)→Ks H H'→Q (.bool true) H'):wpSs ⟨c,n+5,true⟩ (L09.f__law_deed.body.drop 10) (fun _ H=>Q .none H) Q (fun cl _ H=>E cl H) (Vd b fa pa cl un ha y w v am) H:=by
 refine w_st fun K nx=>?_
 refine Eq.mpr (if_neg (show ¬ (y==4)=true from by rcases hy with rfl | rfl<;>decide)) ?_
 refine Eq.mpr (if_neg (by rcases hy with rfl | rfl<;>decide)) (nx _ _ ?_)
 exact Zm6 G L (by lia) q
theorem Z0p (L:L9 H b fa pa ha Gs N) (u1:un≤1000000000000000000000000000) (a1:1≤am) (a2:am≤30*un) (ns:isNm s=true) (q:∀ H',L9 H' b fa pa ha Gs (N+1)→Ks H H'→Q (.bool true) H'):wpSs ⟨c,n+5,true⟩ (L09.f__law_deed.body.drop 8) (fun _ H=>Q .none H) Q (fun cl _ H=>E cl H) (Vd b fa pa cl un ha 2 w (.str s) am) H:=by
 have fin:∀ H',L9 H' b fa pa ha Gs N→Ks H H'→wpSs ⟨c,n+5,true⟩ (L09.f__law_deed.body.drop 9) (fun _ H=>Q .none H) Q (fun cl _ H=>E cl H) (Vd b fa pa cl un ha 2 w (.str s) am) H':=fun H' L' k'=>by
  refine w_st fun K nx=>?_
  exact nx _ _ (Zkv G L' (.inl rfl) fun H2 l2 k2=>q H2 l2 (k'.trans k2))
 obtain ⟨B,rs,tot,ks,hb,M,I,sg,Hh⟩:=id L
 have hM:c.P.meths=BK.meths:=by refine rl G.hP ?_;rfl
 refine w_st fun K nx=>?_
 dsimp only [Zay,x_ao,Zav,Za7,Zan,c_in,Zad,List.getElem?_cons_succ,v_0,Zai,c_eq,Int.reduceBEq,Zag,↓dreduceIte]
 refine Zl6 M.f ?_
 dsimp only [Zag]
 cases hs:hs B.free s with
 | false=>exact Eq.mpr (if_neg (by decide)) (nx _ _ (fin H L (.kp .refl)))
 | true =>
  refine Eq.mpr (if_pos rfl) ?_
  dsimp only [Zaw,Zar]
  refine Zb6 hM (by decide) (by decide) hb rfl ?_
  have hpu:putQ B (.str s) (.int am) = .ok { B with free:=pt B.free s (vl B.free s+am) }:=by
   unfold putQ
   refine rl (if_pos (by rw [Zc9 I Zcm];exact hs)) (rl (if_pos (Zun u1 a1 a2)) ?_);rfl
  refine Zxh (n:=n+2) G U9.a rfl hb (Kv.nm ns).kn Kv.int.kn I.ok.sz ?_
  refine rl hpu ?_
  have kp:=Kp.up (y:=.book { B with free:=pt B.free s (vl B.free s+am) }) hb
  dsimp only [Zam,Zau,Zad,List.getElem?_cons_succ,v_0,Zat]
  refine Zc5 (M.kp kp).f hs ?_
  dsimp only [Zct]
  have hF:B.free.length≤1000:=by
   have:=I.pl
   rw [← I.fk,List.length_map] at this
   exact Nat.le_trans this (by decide)
  refine Zew (M.kp kp) rfl rfl hF fun H2 M2 k2=>nx _ _ (fin H2 ⟨_,rs,_,ks,k2.bk Zac,M2,I.put hpu,sg,(Hh.kp kp).lk k2⟩ ((Ks.kp kp).trans (.lk k2)))
theorem Z0o (L:L9 H b fa pa ha Gs N) (u1:un≤1000000000000000000000000000) (a1:1≤am) (a2:am≤30*un) (ns:isNm s=true) (q:∀ H',L9 H' b fa pa ha Gs (N+1)→Ks H H'→Q (.bool true) H'):wpSs ⟨c,n+5,true⟩ (L09.f__law_deed.body.drop 8) (fun _ H=>Q .none H) Q (fun cl _ H=>E cl H) (Vd b fa pa cl un ha 3 w (.str s) am) H:=by
 have fin:∀ H',L9 H' b fa pa ha Gs N→Ks H H'→wpSs ⟨c,n+5,true⟩ (L09.f__law_deed.body.drop 10) (fun _ H=>Q .none H) Q (fun cl _ H=>E cl H) (Vd b fa pa cl un ha 3 w (.str s) am) H':=fun H' L' k'=>Zkv G L' (.inr rfl) fun H2 l2 k2=>q H2 l2 (k'.trans k2)
 obtain ⟨B,rs,tot,ks,hb,M,I,sg,Hh⟩:=id L
 have hM:c.P.meths=BK.meths:=by refine rl G.hP ?_;rfl
 refine w_st fun K nx=>?_
 refine nx _ _ ?_
 refine w_st fun K nx=>?_
 dsimp only [Zay,x_ao,Zav,Za7,Zan,Zat,Zad,List.getElem?_cons_succ,v_0,c_in,Zai,c_eq,Int.reduceBEq,Zag,↓dreduceIte]
 refine Zl6 M.f ?_
 dsimp only [Zag]
 cases hs:hs B.free s with
 | false=>exact Eq.mpr (if_neg (by decide)) (nx _ _ (fin H L (.kp .refl)))
 | true =>
  refine Eq.mpr (if_pos rfl) (Zc5 M.f hs ?_)
  by_cases hle:am≤vl B.free s
  ·refine Eq.mpr (if_pos (decide_eq_true hle)) ?_
   dsimp only [Zaw,Zar]
   refine Zb6 hM (by decide) (by decide) hb rfl ?_
   have hpu:Znc B (.str s) (.int am) = .ok { B with free:=pt B.free s (vl B.free s - am) }:=by
    unfold Znc
    refine rl (if_pos (by rw [Zc9 I Zcm];exact hs)) (rl (if_pos (Zun u1 a1 a2)) (rl (if_neg (show ¬ Zco B (.str s)<Zgp (.int am) from Int.not_lt.mpr hle)) ?_));rfl
   refine Zw0 (n:=n+2) G U9.a rfl hb (Kv.nm ns).kn Kv.int.kn I.ok.sz ?_
   refine rl hpu ?_
   have kp:=Kp.up (y:=.book { B with free:=pt B.free s (vl B.free s - am) }) hb
   dsimp only [Zam,Zau,Zad,List.getElem?_cons_succ,v_0,Zat]
   refine Zc5 (M.kp kp).f hs ?_
   dsimp only [Zdm]
   have hF:B.free.length≤1000:=by
    have:=I.pl
    rw [← I.fk,List.length_map] at this
    exact Nat.le_trans this (by decide)
   refine Zew (M.kp kp) rfl rfl hF fun H2 M2 k2=>nx _ _ (fin H2 ⟨_,rs,_,ks,k2.bk Zac,M2,I.take hpu,sg,(Hh.kp kp).lk k2⟩ ((Ks.kp kp).trans (.lk k2)))
  ·exact Eq.mpr (if_neg (fun z=>hle (of_decide_eq_true z))) (nx _ _ (fin H L (.kp .refl)))
end
end Mine
end
section
namespace Mine
open L09
theorem Mir.kx {H H':Zaa} {fa pa ha f:Addr} {rs:List R9} {F:List (Str×Int)} {X:List Pc} (M:Mir H fa pa rs F X) (hn:ha ∉ rs.map (·.u)) (hfu:f ∉ rs.map (·.u)) {l l':List AV} (hl:H ha=some (.list l)) (hf:H f=some (.list l')) (e:∀ a x,a≠ha→a≠f→H a=some x→H' a=some x):Mir H' fa pa rs F X:=by
 have e1:Kb ha H (fun a=>if a=f then H f else H' a):=fun a x n h=>by
  by_cases q:a=f
  ·rw [q] at h;exact (if_pos q).trans h
  ·exact (if_neg q).trans (e a x n q h)
 refine (M.kb hn hl e1).kb hfu (l:=l') ((if_pos rfl).trans hf) fun a x n h=>?_
 exact (if_neg n).symm.trans h
section
variable {c:Cx} (G:Gd c L09.P) {n:Nat} {Q:AV→Zaa→Prop} {E:String→Zaa→Prop} {H:Zaa} {b fa pa ha:Addr} {B:Bk} {v w:AV} {y tot cl un am:Int} {rs:List R9} {Gs:Sg} {N:Nat} {k s:Str} {ks:List (Str×List (Str×Int))}
include G
theorem Zyc {f d:Addr} {l:List Str} {H1:Zaa} (hb:H1 b=some (.book B)) (M:Mir H1 fa pa rs B.free B.pacts) (I:Inv pur9 ks B tot) (sg:B.pacts.map sig=Gs) (Hh:Hl H1 ha (rs.map (·.u)) N) (hf1:H1 f=none) (e:Ext H1 H) (hf:H f=some (.list (txs l))) (hd:H d=some (.list (txs l))) (hl:l.length≤900) (hN:N≤9000) (q:∀ H',L9 H' b fa pa ha Gs (N+1)→Ks H H'→Q (.bool true) H'):CallOK c (n+1) true "_law_kept" [.ref f,.ref d,.ref ha] Q E H:=by
 have hfu:f ∉ rs.map (·.u):=fun z=>Zf2 M f z hf1
 have Hf:Hl H ha (f::rs.map (·.u)) N:=(Hh.chg fun u hu=>by
  rcases List.mem_cons.mp hu with rfl | hu
  ·exact .inr hf1
  ·exact .inl hu).kp (.ext e)
 obtain ⟨_,h1⟩:=Hf.at
 have hn:=Hf.n
 have M2:=M.kp (.ext e)
 refine Zvy G hf hd Hf hfu hl hN (Zf2 M2) fun H' k' h'=>q H' ⟨B,rs,tot,ks,?_,M2.kx (fun z=>hn (.tail _ z)) hfu h1 hf k',I,sg,h'⟩ fun a x _ xl _ h=>?_
 ·have:=e _ _ hb
  exact k' _ _ (fun z=>by rw [z,h1] at this;cases this) (fun z=>by rw [z,hf] at this;cases this) this
 ·exact k' _ _ (fun z=>by rw [z,h1] at h;cases h;cases xl) (fun z=>by rw [z,hf] at h;cases h;cases xl) h
theorem Z0n (gk:Gok Gs) (L:L9 H b fa pa ha Gs N) (hN:N≤9000) (nk:isNm k=true) (q:∀ H',L9 H' b fa pa ha Gs (N+1)→Ks H H'→Q (.bool true) H'):wpSs ⟨c,n+5,true⟩ (L09.f__law_deed.body.drop 8) (fun _ H=>Q .none H) Q (fun cl _ H=>E cl H) (Vd b fa pa cl un ha 4 (.str k) v am) H:=by
 have fin:wpSs ⟨c,n+5,true⟩ (L09.f__law_deed.body.drop 11) (fun _ H=>Q .none H) Q (fun cl _ H=>E cl H) (Vd b fa pa cl un ha 4 (.str k) v am) H:=Zm6 G L (.inr (.inr rfl)) q
 obtain ⟨B,rs,tot,ks,hb,M,I,sg,Hh⟩:=L
 have hM:c.P.meths=BK.meths:=by refine rl G.hP ?_;rfl
 refine w_st fun K nx=>?_
 refine nx _ _ ?_
 refine w_st fun K nx=>?_
 refine nx _ _ ?_
 refine w_st fun K nx=>?_
 dsimp only [Zay,x_ao,Zav,Za7,Zan,Zai,Zau,Zad,List.getElem?_cons_succ,v_0,Zcl,ne_eq,Zcq,c_eq,Zag,beq_iff_eq,Zat,c_in,Int.reduceBEq,↓dreduceIte]
 refine Ziv M ?_
 dsimp only [Zag]
 cases hx:pAt B.pacts k with
 | none=>exact Eq.mpr (if_neg (by decide)) (nx _ _ fin)
 | some e =>
  obtain ⟨j,x⟩:=e
  refine Eq.mpr (if_pos rfl) (Zc7 M hx fun r hr row=>Zjy (j:=2) row.t rfl (show 3≤1000 by decide) ?_)
  by_cases ho:x.state = .opn
  ·refine Eq.mpr (if_pos (by refine rl ho ?_;decide)) ?_
   refine ⟨by decide,by decide,?_⟩
   by_cases h3:((cl.fdiv 280).fmod 3==0)=true
   ·refine Eq.mpr (if_pos h3) ?_
    have hxj:=(Zbb hx).1
    have hX:B.pacts.length≤1000:=Nat.le_trans I.len (by decide)
    have hF:B.free.length≤1000:=by
     have:=I.pl
     rw [← I.fk,List.length_map] at this
     exact Nat.le_trans this (by decide)
    refine Zm5 (n:=n+4) (st:=.fln) G M I.nm hx (I.at hxj) I.fk (.head _) hF hX (.inl rfl) fun H1 rs1 F1 M1 d1 k1 hu1=>?_
    have S:=Zg8 I.ok hxj ho
    have M1:=Zp0 M1 d1 S (by refine rl I.fk ?_;exact I.nd) (gk.at sg (List.mem_of_getElem? hxj)).1
    have h1:Hl H1 ha (rs1.map (·.u)) N:=Hh.lkc k1 fun u hu=>by
     obtain ⟨r,hr,rfl⟩:=List.mem_map.mp hu
     exact hu1 r hr
    have hb1:=k1.bk hb
    dsimp only [Zaw,Zbh,Zao,Zae,Zah,Zad,List.getElem?_cons_succ,v_0,Zaz]
    refine Zb6 hM (by decide) (by decide) hb1 rfl ?_
    refine Zz7 (n:=n+1) G U9 rfl rfl rfl rfl rfl hb1 I.ok (Kv.nm nk).kn ?_
    refine rl (Zxx (by rw [Zen I];exact hx) ho fun y hy=>(gk.at sg hy).2.1) ?_
    intro f hf
    intro d hd
    have kp:=Kp.up (y:=.book (Zd2 B j x)) hb1
    have hf2:up H1 b (.book (Zd2 B j x)) f=none:=by refine rl (Zab fun z=>by rw [z,hb1] at hf;cases hf) ?_;exact hf
    have hb2:up H1 b (.book (Zd2 B j x)) b=some (.book (Zd2 B j x)):=Zac
    have k2:=(Ks.lk k1).trans (Ks.kp kp)
    have M2:=M1.kp kp
    have h2:=h1.kp kp
    rw [(Zbb hx).2] at hd ⊢
    generalize up H1 b (.book (Zd2 B j x))=H2 at hf2 hb2 k2 M2 h2 hd ⊢
    have E3:=(Ext.refl.new (o:=.list (txs [k])) hf2).new (o:=.list (txs [k])) hd
    refine Zyc (n:=n+4) (l:=[k]) G hb2 M2 (I.step S) (Zoz (x':=x.end .fln) sg hxj rfl S.ps) h2 hf2 E3 (Zdf Zac hd) Zac (show 1≤900 by decide) hN fun H' l' k'=>q H' l' ((k2.trans (.kp (.ext E3))).trans k')
   ·exact Eq.mpr (if_neg h3) (nx _ _ fin)
  ·have hne:¬ nt false (x.state.str==Str.ofString "open")=true:=by revert ho;cases x.state<;>decide
   exact Eq.mpr (if_neg hne) (Eq.mpr (if_neg hne) (nx _ _ fin))
end
end Mine
end
section
namespace Mine
open L09
noncomputable def fF (X:List Pc):AV→Option AV
 | .str s=>match pAt X s with
  | some e=>if Zck e.2=true then some (.str s) else none
  | none=>none
 | _=>none
theorem Zys {X:List Pc} {j:Nat} {x:Pc} (nd:(X.map (·.name)).Nodup) (hj:X[j]? = some x):fF X (.str x.name)=if Zck x=true then some (.str x.name) else none:=by unfold fF;dsimp only;rw [Zdj nd hj]
theorem Zyt {X:List Pc} (nd:(X.map (·.name)).Nodup):∀ {Y:List Pc},(∀ x∈Y,x∈X)→(Y.map fun x=>AV.str x.name).filterMap (fF X)=txs (Zca Y):=fun {Y} h=>by
 induction Y with
 | nil=>rfl
 | cons x Y ih =>
  obtain ⟨j,hj⟩:=List.mem_iff_getElem?.mp (h x (.head _))
  unfold Zca
  rw [List.map_cons,List.filterMap_cons,List.filter_cons,Zys nd hj,ih fun x hx=>h x (.tail _ hx)]
  cases Zck x<;>rfl
inductive Se (H:Zaa) (b fa pa ha z:Addr) (v3 v4 v6 v7 v8 v9:Option AV) (B:Bk) (ks:List (Str×List (Str×Int))) (tot:Int) (Gs:Sg) (N:Nat) (g:List Str) (i:Nat) (V':VV) (H':Zaa):Prop
 | mk (p11:Option AV) (B1:Bk) (rs1:List R9) (hV:V'=[some (.ref b),some (.ref fa),some (.ref pa),v3,v4,some (.ref ha),v6,v7,v8,v9,some (.ref z),p11]) (hb:H' b=some (.book B)) (M:Mir H' fa pa rs1 B1.free B1.pacts) (I:Inv pur9 ks B1 tot) (sg:B1.pacts.map sig=Gs) (h:Hl H' ha (rs1.map (·.u)) N) (hz:H' z=some (.list (txs g))) (hzu:z ∉ rs1.map (·.u)) (hR:Zcu (g.drop i) B1=Zcu g B) (hf:∀ k∈g.drop i,∃ e:Nat×Pc,pAt B1.pacts k=some e∧Zck e.2=true) (k:Ks H H')
section
variable {c:Cx} (G:Gd c L09.P) {n:Nat} {Q:AV→Zaa→Prop} {E:String→Zaa→Prop} {H:Zaa} {b fa pa ha:Addr} {B:Bk} {v w:AV} {y tot cl un am:Int} {rs:List R9} {Gs:Sg} {N:Nat} {k s:Str} {ks:List (Str×List (Str×Int))}
include G
theorem Z0m (gk:Gok Gs) (L:L9 H b fa pa ha Gs N) (hN:N≤9000) (q:∀ H',L9 H' b fa pa ha Gs (N+1)→Ks H H'→Q (.bool true) H'):wpSs ⟨c,n+5,true⟩ (L09.f__law_deed.body.drop 8) (fun _ H=>Q .none H) Q (fun cl _ H=>E cl H) (Vd b fa pa cl un ha 5 w v am) H:=by
 obtain ⟨B,rs,tot,ks,hb,M,I,sg,Hh⟩:=L
 have hM:c.P.meths=BK.meths:=by rw [G.hP];rfl
 have hX:B.pacts.length≤1000:=Nat.le_trans I.len (by decide)
 refine w_st fun K nx=>?_
 refine nx _ _ ?_
 refine w_st fun K nx=>?_
 refine nx _ _ ?_
 refine w_st fun K nx=>?_
 refine nx _ _ ?_
 refine w_st fun K nx=>?_
 clear nx
 refine w_st fun K nx=>?_
 refine ⟨rfl,?_⟩
 dsimp only [Zad]
 show Zk5 _ _ (.ref pa) _
 refine Zdy (xs:=B.pacts.map fun x=>.str x.name) (Zjd M) (by rw [List.length_map];exact Nat.le_trans hX (by decide)) (fF B.pacts) (fun s hs nx hnx=>?_) fun z hz=>?_
 ·obtain ⟨x,hxm,rfl⟩:=List.mem_map.mp hs
  obtain ⟨j,hj⟩:=List.mem_iff_getElem?.mp hxm
  have hp:pAt B.pacts x.name=some (j,x):=Zdj I.nm hj
  obtain ⟨r,hr,row⟩:=M.row hj
  have px:=I.at hj
  rw [Zys I.nm hj] at hnx
  have ho:=Zi2 (x:=x.state)
  (refine Eq.mpr (if_neg Bool.false_ne_true) ?_;dsimp only [Zbs,x_ao,Zav,Za7,Zan,Zal,Zae,Zah])
  refine Zle M rfl rfl hp hr rfl ?_
  dsimp only [List.cons_append,List.nil_append,List.getElem?_cons_succ,v_0,Zat,Zai,Zad,Zdc,Zag,beq_iff_eq]
  by_cases hop:x.state = .opn
  ·refine Eq.mpr (if_pos (by rw [ho,hop];rfl)) ?_
   obtain ⟨e,d⟩:=row.d
   refine Zc7 M hp fun r' hr' row'=>?_
   rw [hr] at hr';obtain rfl:=Option.some.inj hr'
   refine Zjy (j:=1) row.t rfl (show 3≤1000 by decide) ?_
   refine Zph row.u (by rw [Zaj];exact Nat.le_trans (I.ok.inl j x hj).1 (by decide)) ?_
   refine Zc7 M hp fun r' hr' row'=>?_
   rw [hr] at hr';obtain rfl:=Option.some.inj hr'
   refine Zjy (j:=0) row.t rfl (show 3≤1000 by decide) ?_
   (dsimp only [Zee];rw [d])
   refine ⟨by rw [Zc4];exact Nat.lt_of_le_of_lt px.ln.1 (by decide),?_⟩
   rw [Zaj,Zc4]
   dsimp only [c_eq]
   have:Zck x=((x.inside.length:Int)==(x.parts.length:Int)):=by
    unfold Zck
    rw [hop]
    show (true&&_)=_
    rw [Bool.true_and]
    by_cases e:x.inside.length=x.parts.length
    ·rw [e,beq_self_eq_true,beq_self_eq_true]
    ·rw [beq_eq_false_iff_ne.mpr e,beq_eq_false_iff_ne.mpr (fun z=>e (by exact Int.natCast_inj.mp z))]
   rw [← this]
   cases hfb:Zck x with
   | true=>rw [hfb] at hnx;exact hnx
   | false=>rw [hfb] at hnx;exact hnx
  ·have hfb:Zck x=false:=by
    unfold Zck
    rw [show (x.state==.opn)=false from beq_eq_false_iff_ne.mpr hop];rfl
   rw [hfb] at hnx
   have:(x.state.str==Str.ofString "open")=false:=by rw [ho];exact beq_eq_false_iff_ne.mpr hop
   refine Eq.mpr (if_neg (by rw [this];decide)) ?_
   rw [this];exact hnx
 rw [Zyt I.nm fun _ h=>h]
 refine ⟨show 10<12 by decide,nx _ _ ?_⟩
 have E1:=Ext.refl.new (o:=.list (txs (Zca B.pacts))) hz
 have hz1:up H z (.list (txs (Zca B.pacts))) z=some (.list (txs (Zca B.pacts))):=Zac
 have hfn:=Ziq I.nm (List.Sublist.refl (Zca B.pacts))
 have hzu:z ∉ rs.map (·.u):=fun q=>Zf2 M z q hz
 generalize up H z (.list (txs (Zca B.pacts)))=H1 at E1 hz1
 have hgl:(Zca B.pacts).length≤900:=Nat.le_trans Zht (Nat.le_trans I.len (by decide))
 generalize hg:Zca B.pacts=g at hz1 hfn hgl
 refine w_st fun K nx=>?_
 refine ⟨rfl,?_⟩
 dsimp only [Zad,List.set_cons_succ,List.set_cons_zero,List.getElem?_cons_succ,v_0,wtg]
 refine Ze3 (xs:=txs g) (by simp only [Zap,hz1]) (Se H b fa pa ha z (some (.int cl)) (some (.int un)) (some (.int 5)) (some w) (some v) (some (.int am)) B ks tot Gs N g) ⟨_,B,rs,rfl,E1 _ _ hb,M.kp (.ext E1),I,sg,Hh.kp (.ext E1),hz1,hzu,rfl,hfn.2,.kp (.ext E1)⟩ ?_
 rintro J hJ i V' H' ⟨p11,B1,rs1,rfl,hb1,M1,I1,sg1,h1,hz1',hzu1,hR,hf,k1⟩
 refine ⟨hz1'.trans hz1.symm,fun hk=>nx _ _ ?_,fun y hy=>⟨show 11<12 by decide,?_⟩⟩
 ·rw [Zaj] at hk
  rw [hk,List.drop_length] at hR
  have hR:B1=Zcu g B:=hR
  dsimp only [Zaw,Zbh,Zao,Zae,Zah,Zad,List.getElem?_cons_succ,v_0]
  refine Zb6 hM (by decide) (by decide) hb1 rfl ?_
  refine Zr5 (n:=n+2) G U9 rfl rfl rfl rfl rfl rfl hb1 I.ok I.nm fun f g' hf' hgr=>?_
  have hg':g'=g:=by
   rw [hg] at hgr
   refine Zwc hfn.1 hgr fun x _=>?_
   unfold ndB
   cases hp:pAt B.pacts x with
   | none=>rfl
   | some e=>exact (gk.at sg (List.mem_of_getElem? (Zbb (j:=e.1) (q:=e.2) hp).1)).2.1
  rw [hg',← hR]
  have kp:=Kp.up (y:=.book B1) hb1
  have hf2:up H' b (.book B1) f=none:=by rw [Zab fun z=>by rw [z,hb1] at hf';cases hf'];exact hf'
  have hb2:up H' b (.book B1) b=some (.book B1):=Zac
  have k2:=k1.trans (Ks.kp kp)
  have M2:=M1.kp kp
  have h2:=h1.kp kp
  have hz2:=kp _ _ rfl hz1'
  generalize up H' b (.book B1)=H2 at hf2 hb2 k2 M2 h2 hz2 ⊢
  have E3:=Ext.refl.new (o:=.list (txs g)) hf2
  exact Zyc (n:=n+4) (l:=g) G hb2 M2 I1 sg1 h2 hf2 E3 Zac (E3 _ _ hz2) hgl hN fun H' l' k'=>q H' l' ((k2.trans (.kp (.ext E3))).trans k')
 ·unfold txs at hy
  rw [List.getElem?_map,Option.map_eq_some_iff] at hy
  obtain ⟨s,hs',rfl⟩:=hy
  obtain ⟨hi,rfl⟩:=List.getElem?_eq_some_iff.mp hs'
  have hdr:g.drop i=g[i]::g.drop (i+1):=List.drop_eq_getElem_cons hi
  rw [hdr] at hR hf
  obtain ⟨⟨j,x⟩,hx,hfb⟩:=hf _ (.head _)
  have hg1:=Zbb hx
  have nd2:g[i] ∉ g.drop (i+1):=by
   have:=hfn.1.sublist (List.drop_sublist i g)
   rw [hdr] at this
   exact (List.nodup_cons.mp this).1
  have S:=Zj0 I1.ok hg1.1 hfb
  have hF:B1.free.length≤1000:=by
   have:=I1.pl
   rw [← I1.fk,List.length_map] at this
   exact Nat.le_trans this (by decide)
  refine Zm5 (n:=n+4) (st:=.dn) G M1 I1.nm hx (I1.at hg1.1) I1.fk (.head _) hF (Nat.le_trans I1.len (by decide)) (.inr rfl) fun H2 rs2 F2 M2 d2 k2 hu2=>?_
  have hu2:∀ u∈rs2.map (·.u),u∈rs1.map (·.u)∨H' u=none:=fun u hu=>by
   obtain ⟨r,hr,rfl⟩:=List.mem_map.mp hu
   exact hu2 r hr
  refine hJ _ _ _ ⟨_,Zl1 B1 j x,rs2,rfl,k2.bk hb1,Zp0 M2 d2 S (by rw [I1.fk];exact I1.nd) (gk.at sg1 (List.mem_of_getElem? hg1.1)).1,I1.step S,Zoz (x':=x.end .dn) sg1 hg1.1 rfl S.ps,h1.lkc k2 hu2,k2.k _ _ rfl (fun _=>hzu1) hz1',(fun q=>(hu2 _ q).elim hzu1 fun e=>by rw [e] at hz1';contradiction),?_,fun k' hk'=>?_,k1.trans (.lk k2)⟩
  ·rw [← hR]
   show _=Zcu _ (match pAt B1.pacts g[i] with | some e=>Zl1 B1 e.1 e.2 | none=>B1)
   rw [hx]
  ·obtain ⟨⟨m,y⟩,h3,h4⟩:=hf k' (.tail _ hk')
   refine ⟨(m,y),Zpi hg1.1 rfl h3 fun q=>nd2 ?_,h4⟩
   have hy:=Zbb h3
   rw [q,hg1.1] at hy
   rw [← hg1.2,Option.some.inj hy.1,hy.2];exact hk'
end
end Mine
end
section
namespace Mine
open L09
abbrev six9:List Str:=[S9 "one",S9 "two",S9 "three",S9 "four",S9 "five",S9 "six"]
abbrev sev9:List Str:=[S9 "one",S9 "two",S9 "three",S9 "four",S9 "five",S9 "six",S9 "seven"]
abbrev Zyr:List Str:=[S9 "quay",S9 "till",S9 "mill",S9 "hill"]
theorem Zu2:∀ s∈sev9,isNm s=true:=by decide +kernel
theorem Zm1:∀ s∈Zyr,isNm s=true:=by decide +kernel
theorem L9.ext {H H':Zaa} {b fa pa ha:Addr} {Gs:Sg} {N:Nat} (L:L9 H b fa pa ha Gs N) (e:Ext H H'):L9 H' b fa pa ha Gs N:=by
 obtain ⟨B,rs,tot,ks,hb,M,I,sg,Hh⟩:=L
 exact ⟨B,rs,tot,ks,e _ _ hb,M.kp (.ext e),I,sg,Hh.kp (.ext e)⟩
section
variable {g:Gx} {V:VV} {H:Zaa} {Q:AV→Zaa→Prop} {E:String→Zaa→Prop}
theorem Zt5 {l:List Str} {xs:List X} {e:X} {i:Int} (hx:xs=l.map fun s=>.lit (.str s)) (he:∀ H' (Q:AV→Zaa→Prop),Q (.int i) H'→wpX g e V Q E H') (h0:0≤i) (h1:i<l.length) (hl:l.length≤1000) (q:∀ s∈l,∀ H',Ext H H'→Q (.str s) H'):wpX g (.sub (.list xs) e) V Q E H:=by
 subst hx
 have:∀ {l:List Str} {K:List AV→Zaa→Prop},K (txs l) H→wpXs g (l.map fun s=>.lit (.str s)) V K E H:=fun {l K} h=>by
  induction l generalizing K with
  | nil=>exact h
  | cons s l ih =>
   refine rl List.map_cons ?_
   exact ih h
 refine this fun z hz=>?_
 refine he _ _ ?_
 refine Zg5 Zac h0 (by refine rl Zaj ?_;exact h1) (by refine rl Zaj ?_;exact hl) fun v hv=>?_
 obtain ⟨s,hs,rfl⟩:=List.mem_map.mp hv
 exact q s hs _ (Ext.refl.new hz)
theorem Zmh {e:X} {i:Int} {s:Str} (he:∀ H' (Q:AV→Zaa→Prop),Q (.int i) H'→wpX g e V Q E H') (h0:0≤i) (h1:i<3) (q:∀ v H',Ext H H'→Kq H' v→Q v H'):wpX g (.sub (.list [.lit (.int 7),.lit .none,.list [.lit (.str s)]]) e) V Q E H:=by
 intro a ha z hz
 have E1:=(Ext.refl.new (o:=.list [.str s]) ha).new (o:=.list [.int 7,.none,.ref a]) hz
 have ha2:up (up H a (.list [.str s])) z (.list [.int 7,.none,.ref a]) a=some (.list [.str s]):=Zdf Zac hz
 refine he _ _ ?_
 refine Zg5 Zac h0 h1 (by show 3≤1000;decide) fun v hv=>q v _ E1 ?_
 rcases List.mem_cons.mp hv with rfl | hv
 ·exact .inl .int
 rcases List.mem_cons.mp hv with rfl | hv
 ·exact .inl .none
 ·refine rl (List.mem_singleton.mp hv) ?_;exact .inr ⟨a,_,rfl,ha2⟩
end
section
variable {c:Cx} (G:Gd c L09.P) {n:Nat} {Q:AV→Zaa→Prop} {E:String→Zaa→Prop} {H:Zaa} {b fa pa ha:Addr} {cl un:Int} {Gs:Sg} {N:Nat}
include G
theorem Zq2 {y am:Int} {w v:AV} (gk:Gok Gs) (L:L9 H b fa pa ha Gs N) (hN:N≤9000) (u1:un≤1000000000000000000000000000) (a1:1≤am) (a2:am≤30*un) (hy:0≤y∧y≤5) (kv:Kq H v) (kw:Kq H w) (h2:2≤y→∃ k s,w = .str k∧v = .str s∧isNm k=true∧isNm s=true) (q:∀ H',L9 H' b fa pa ha Gs (N+1)→Ks H H'→Q (.bool true) H'):wpSs ⟨c,n+5,true⟩ (L09.f__law_deed.body.drop 7) (fun _ H=>Q .none H) Q (fun cl _ H=>E cl H) (Vd b fa pa cl un ha y w v am) H:=by
 by_cases y2:2≤y
 ·obtain ⟨k,s,rfl,rfl,nk,ns⟩:=h2 y2
  refine w_st fun K nx=>?_
  refine Eq.mpr (if_neg fun z=>by have:=of_decide_eq_true z;lia) (nx _ _ ?_)
  rcases (by lia:y=2∨y=3∨y=4∨y=5) with rfl | rfl | rfl | rfl
  ·exact Z0p G L u1 a1 a2 ns q
  ·exact Z0o G L u1 a1 a2 ns q
  ·exact Z0n G gk L hN nk q
  ·exact Z0m G gk L hN q
 ·exact Zy2 G L (by lia) kv kw q
theorem Ztm {y am:Int} {k s:Str} (gk:Gok Gs) (L:L9 H b fa pa ha Gs N) (hN:N≤9000) (u1:un≤1000000000000000000000000000) (a1:1≤am) (a2:am≤30*un) (hy:0≤y∧y≤5) (nk:isNm k=true) (ns:isNm s=true) (q:∀ H',L9 H' b fa pa ha Gs (N+1)→Ks H H'→Q (.bool true) H'):wpSs ⟨c,n+5,true⟩ (L09.f__law_deed.body.drop 5) (fun _ H=>Q .none H) Q (fun cl _ H=>E cl H) (Vd b fa pa cl un ha y (.str k) (.str s) am) H:=by
 have m0:=Zcb (x:=cl.fdiv 75600) (m:=3) (by decide)
 have m1:=Zcy (x:=cl.fdiv 75600) (m:=3) (by decide)
 have st2:∀ H1 w,L9 H1 b fa pa ha Gs N→Ks H H1→Kq H1 w→(2≤y→w = .str k)→wpSs ⟨c,n+5,true⟩ (L09.f__law_deed.body.drop 6) (fun _ H=>Q .none H) Q (fun cl _ H=>E cl H) (Vd b fa pa cl un ha y w (.str s) am) H1:=fun H1 w L1 k1 kw hw=>by
  have go:=fun v H2 (e:Ext H1 H2) (kv:Kq H2 v) (hv:2≤y→v = .str s)=>Zq2 (n:=n) (cl:=cl) (E:=E) G gk (L1.ext e) hN u1 a1 a2 hy kv (kw.kp (.ext e)) (fun h=>⟨k,s,hw h,hv h,nk,ns⟩) fun H' l' k'=>q H' l' (k1.trans ((Ks.kp (.ext e)).trans k'))
  refine w_st fun K nx=>?_
  dsimp only [Zay,x_ao,Zav,Za7,Zan,Zai,Zau,Zad,List.getElem?_cons_succ,v_0,Zcl,ne_eq,Zcq,c_eq,Zag,beq_iff_eq,c_lt,decide_eq_true_eq]
  by_cases h2:y<2
  ·refine Eq.mpr (if_pos (decide_eq_true h2)) ?_
   refine ⟨by decide,by decide,?_⟩
   split
   ·dsimp only [Zaw,Zam]
    refine Zmh (i:=(cl.fdiv 75600).fmod 3) (fun H' Q q=>by dsimp only [Zau,Zai,Zad,List.getElem?_cons_succ,v_0,Zcl,ne_eq,Zcq];exact ⟨by decide,by decide,q⟩) m0 m1 fun v H2 e kv=>?_
    exact ⟨show 8<12 by decide,nx _ _ (go v H2 e kv fun z=>by lia)⟩
   ·exact nx _ _ (go _ H1 .refl (.inl (.nm ns)) fun _=>rfl)
  ·refine Eq.mpr (if_neg fun z=>h2 (of_decide_eq_true z)) ?_
   exact Eq.mpr (if_neg fun z=>h2 (of_decide_eq_true z)) (nx _ _ (go _ H1 .refl (.inl (.nm ns)) fun _=>rfl))
 refine w_st fun K nx=>?_
 dsimp only [Zay,x_ao,Zav,Za7,Zan,Zai,Zau,Zad,List.getElem?_cons_succ,v_0,Zcl,ne_eq,Zcq,c_eq,Zag,beq_iff_eq,c_lt,decide_eq_true_eq]
 by_cases h2:y<2
 ·refine Eq.mpr (if_pos (decide_eq_true h2)) ?_
  refine ⟨by decide,by decide,?_⟩
  split
  ·dsimp only [Zaw,Zam]
   refine Zmh (i:=(cl.fdiv 75600).fmod 3) (fun H' Q q=>by dsimp only [Zau,Zai,Zad,List.getElem?_cons_succ,v_0,Zcl,ne_eq,Zcq];exact ⟨by decide,by decide,q⟩) m0 m1 fun v H2 e kv=>?_
   exact ⟨show 7<12 by decide,nx _ _ (st2 H2 v (L.ext e) (.kp (.ext e)) kv fun z=>by lia)⟩
  ·exact nx _ _ (st2 H _ L (.kp .refl) (.inl (.nm nk)) fun _=>rfl)
 ·refine Eq.mpr (if_neg fun z=>h2 (of_decide_eq_true z)) ?_
  exact Eq.mpr (if_neg fun z=>h2 (of_decide_eq_true z)) (nx _ _ (st2 H _ L (.kp .refl) (.inl (.nm nk)) fun _=>rfl))
theorem Zwd (gk:Gok Gs) (L:L9 H b fa pa ha Gs N) (hN:N≤9000) (u0:1≤un) (u1:un≤1000000000000000000000000000) (q:∀ H',L9 H' b fa pa ha Gs (N+1)→Ks H H'→Q (.bool true) H'):CallOK c (n+6) true "_law_deed" [.ref b,.ref fa,.ref pa,.int cl,.int un,.ref ha] Q E H:=by
 refine G.call (F:=L09.f__law_deed) rfl rfl ?_
 show wpSs _ _ _ _ _ [some (.ref b),some (.ref fa),some (.ref pa),some (.int cl),some (.int un),some (.ref ha),none,none,none,none,none,none] _
 have r0:=Zcb (x:=cl.fdiv 280) (m:=30) (by decide)
 have r1:=Zcy (x:=cl.fdiv 280) (m:=30) (by decide)
 obtain ⟨a1,a2⟩:=Zya u0 r0 r1
 refine w_st fun K nx=>?_
 intro z hz
 dsimp only [tv,List.length_cons,List.length_nil,Nat.reduceAdd,List.set_cons_succ,List.set_cons_zero,Zau,Zai,Zad,List.getElem?_cons_succ,v_0,Zcq,ne_eq]
 refine ⟨by decide,Zg5 Zac (Zcb (by decide)) (Zcy (x:=cl) (m:=10) (by decide)) (by show 10≤1000;decide) fun v hv=>?_⟩
 obtain ⟨y,rfl,hy⟩:∃ y,v = .int y∧0≤y∧y≤5:=by
  simp only [List.mem_cons,List.not_mem_nil,or_false] at hv
  rcases hv with rfl | rfl | rfl | rfl | rfl | rfl | rfl | rfl | rfl | rfl<;>exact ⟨_,rfl,by decide,by decide⟩
 refine ⟨show 6<12 by decide,nx _ _ ?_⟩
 clear hv
 have E1:=Ext.refl.new (o:=.list [.int 0,.int 0,.int 0,.int 0,.int 0,.int 1,.int 2,.int 3,.int 4,.int 5]) hz
 generalize up H z (.list [.int 0,.int 0,.int 0,.int 0,.int 0,.int 1,.int 2,.int 3,.int 4,.int 5])=H1 at E1
 refine w_st fun K nx=>?_
 dsimp only [Zam]
 refine Zt5 (l:=sev9) (i:=(cl.fdiv 10).fmod 7) rfl (fun H' Q q=>by dsimp only [Zau,Zai,Zad,List.getElem?_cons_succ,v_0,Zcl,ne_eq,Zcq];exact ⟨by decide,by decide,q⟩) (Zcb (by decide)) (Zcy (by decide)) (by decide) fun k hk H2 E2=>⟨show 7<12 by decide,nx _ _ ?_⟩
 refine w_st fun K nx=>?_
 dsimp only [Zam]
 refine Zt5 (l:=Zyr) (i:=(cl.fdiv 70).fmod 4) rfl (fun H' Q q=>by dsimp only [List.set_cons_succ,List.set_cons_zero,Zau,Zai,Zad,List.getElem?_cons_succ,v_0,Zcl,ne_eq,Zcq];exact ⟨by decide,by decide,q⟩) (Zcb (by decide)) (Zcy (by decide)) (by decide) fun s hs H3 E3=>⟨show 8<12 by decide,nx _ _ ?_⟩
 show wpSs _ (L09.f__law_deed.body.drop 3) _ _ _ [some (.ref b),some (.ref fa),some (.ref pa),some (.int cl),some (.int un),some (.ref ha),some (.int y),some (.str k),some (.str s),none,none,none] _
 have E13:=(E1.trans E2).trans E3
 have L3:=L.ext E13
 have go:∀ s H',isNm s=true→Ext H3 H'→wpSs ⟨c,n+5,true⟩ (L09.f__law_deed.body.drop 4) (fun _ H=>Q .none H) Q (fun cl _ H=>E cl H) [some (.ref b),some (.ref fa),some (.ref pa),some (.int cl),some (.int un),some (.ref ha),some (.int y),some (.str k),some (.str s),none,none,none] H':=fun s H' ns e=>by
  refine w_st fun K nx=>?_
  dsimp only [Zam,tv,List.length_cons,List.length_nil,Nat.reduceAdd,List.set_cons_succ,List.set_cons_zero,Zau,Zad,List.getElem?_cons_succ,v_0,Zai,Zcl,ne_eq,Zcq,Zct,Ze6]
  refine ⟨by decide,by decide,Zha (by lia) (by lia),by decide,nx _ _ ?_⟩
  exact Ztm G gk (L3.ext e) hN u1 a1 a2 hy (Zu2 k hk) ns fun H' l' k'=>q H' l' ((Ks.kp (.ext (E13.trans e))).trans k')
 refine w_st fun K nx=>?_
 dsimp only [Zay,x_ao,Zav,Za7,Zan,c_in,Zad,List.getElem?_cons_succ,v_0,Zai,Zau,Zcl,ne_eq,Zcq,c_gt,Zag,decide_eq_true_eq]
 have gn:∀ {t},t∈pur9→isNm t=true:=fun h=>Zcm _ h
 refine ⟨by decide,by decide,?_⟩
 by_cases h4:(0<(cl.fdiv 280).fmod 4)
 ·refine Eq.mpr (if_pos (decide_eq_true h4)) ?_
  obtain ⟨B,rs,tot,ks,hb,M,I,sg,Hh⟩:=id L3
  refine Ziv M ?_
  cases hx:pAt B.pacts k with
  | none=>exact nx _ _ (go s H3 (Zm1 s hs) .refl)
  | some e =>
   obtain ⟨j,x⟩:=e
   dsimp only [Zag]
   refine Eq.mpr (if_pos rfl) ?_
   have hxj:=(Zbb hx).1
   have px:=I.at hxj
   have gx:=gk.at sg (List.mem_of_getElem? hxj)
   dsimp only [Zaw,Zam,tv,List.length_cons,List.length_nil,Nat.reduceAdd,List.set_cons_succ,List.set_cons_zero,Zat,Zau,Zal,Zae,Zah,Zai,Zad,List.getElem?_cons_succ,v_0,Zcl,ne_eq]
   refine Zc7 M hx fun r hr row=>Zjy (j:=0) row.t rfl (show 3≤1000 by decide) ?_
   obtain ⟨ep,d⟩:=row.d
   (dsimp only [Zdt];refine rl d ?_)
   have hks:(dI x.parts).map (fun e=>AV.str e.1)=txs (x.parts.map (·.1)):=by unfold dI txs;refine rl List.map_map (rl List.map_map ?_);rfl
   refine ⟨rfl,by refine rl Zc4 ?_;exact Nat.le_trans px.ln.1 (by decide),fun z hz=>?_⟩
   refine rl hks ?_
   have E4:=Ext.refl.new (o:=.list (txs (x.parts.map (·.1)))) hz
   have hz4:up H3 z (.list (txs (x.parts.map (·.1)))) z=some (.list (txs (x.parts.map (·.1)))):=Zac
   generalize up H3 z (.list (txs (x.parts.map (·.1))))=H4 at E4 hz4
   have M4:=M.kp (.ext E4)
   refine ⟨by decide,Zc7 M4 hx fun r' hr' row'=>Zjy (j:=0) row'.t rfl (show 3≤1000 by decide) ?_⟩
   obtain ⟨ep',d'⟩:=row'.d
   (dsimp only [Zee];refine rl d' ?_)
   refine ⟨by refine rl Zc4 ?_;exact Nat.lt_of_le_of_lt px.ln.1 (by decide),?_⟩
   refine rl Zc4 ?_
   have hl0:(0:Int)<x.parts.length:=by have:=gx.2.2;lia
   refine ⟨Int.ne_of_gt hl0,Zg5 hz4 (Zcb hl0) (by refine rl (Zaj ..) (rl (List.length_map ..) ?_);exact Zcy hl0) (by refine rl (Zaj ..) (rl (List.length_map ..) ?_);exact Nat.le_trans px.ln.1 (by decide)) fun v hv=>?_⟩
   obtain ⟨t,ht,rfl⟩:=List.mem_map.mp hv
   obtain ⟨e,he,rfl⟩:=List.mem_map.mp ht
   exact ⟨show 8<12 by decide,nx _ _ (go _ H4 (gn (px.pm e he).1) E4)⟩
 ·have h4':¬ decide (0<(cl.fdiv 280).fmod 4)=true:=fun z=>h4 (of_decide_eq_true z)
  exact Eq.mpr (if_neg h4') (Eq.mpr (if_neg h4') (nx _ _ (go s H3 (Zm1 s hs) .refl)))
end
end Mine
end
section
namespace Mine
open L09
theorem Zz0 {l:List (Str×Int)} {s:Str} {a:Int} (h:hs l s=false):pt (pt l s 0) s a=pt l s a:=by
 have e:∀ {a:Int},pt l s a=l++[(s,a)]:=fun {a}=>if_neg (by unfold hs at h;rw [h];decide)
 have h2:(lk (l++[(s,(0:Int))]) s).isSome=true:=by rw [← e,Zs3,if_pos rfl];rfl
 rw [e,e,show pt (l++[(s,(0:Int))]) s a=(l++[(s,(0:Int))]).map (fun e=>if e.1=s then (e.1,a) else e) from if_pos h2,List.map_append]
 congr 1
 ·refine (List.map_congr_left fun e he=>if_neg fun q=>?_).trans (List.map_id l)
  rw [(Zbr rfl).mpr (q▸List.mem_map_of_mem he)] at h
  contradiction
 ·show [if s=s then _ else _]=_
  exact rl (if_pos rfl) rfl
abbrev VL (sp b fa pa ha:Addr) (un:Int) (p6 p7 p8 p9:Option AV):VV:=[some (.ref sp),some (.ref b),some (.ref fa),some (.ref pa),some (.ref ha),some (.int un),p6,p7,p8,p9,none,none]
inductive O9 (sp b fa pa ha zr:Addr) (ns:List Int) (un:Int) (k:Nat) (V':VV) (H':Zaa):Prop
 | mk (p6 p7:Option AV) (B:Bk) (tot:Int) (hV:V'=VL sp b fa pa ha un p6 p7 none none) (hs:H' sp=some (.script ns)) (hz:H' zr=some (.range 0 3)) (hb:H' b=some (.book B)) (M:Mir H' fa pa [] B.free B.pacts) (I:Inv (pur9.take k) [] B tot) (hp:B.pacts=[]) (hd:B.day=0) (h:Hl H' ha [] 0)
section
variable {c:Cx} (G:Gd c L09.P) {n:Nat} {QN:VV→Zaa→Prop} {Q:AV→Zaa→Prop} {E:String→VV→Zaa→Prop} {H:Zaa} {sp b fa pa ha zr:Addr} {ns:List Int} {un:Int}
include G
theorem Zz3 (u0:1≤un) (u1:un≤1000000000000000000000000000) (hl:ns.length<2 ^ 62) {p6 p7:Option AV} (hs:H sp=some (.script ns)) (hb:H b=some (.book ⟨0,[],[],[]⟩)) (M:Mir H fa pa [] [] []) (h:Hl H ha [] 0) {rest:List S}
  (q:∀ H' p6 p7 B tot,H' sp=some (.script ns)→H' b=some (.book B)→Mir H' fa pa [] B.free B.pacts→Inv pur9 [] B tot→B.pacts=[]→B.day=0→Hl H' ha [] 0→wpSs ⟨c,n+5,true⟩ rest QN Q E (VL sp b fa pa ha un p6 p7 none none) H') :
  wpSs ⟨c,n+5,true⟩ ((L09.f_law.body.drop 6).take 1++rest) QN Q E (VL sp b fa pa ha un p6 p7 none none) H:=by
 have hM:c.P.meths=BK.meths:=by rw [G.hP];rfl
 show wpSs _ (_::rest) _ _ _ _ _
 refine w_st fun K nx=>?_
 dsimp only [Zb3]
 refine ⟨rfl,?_⟩
 dsimp only [Zal,wtg,Zae,Zah,Zai]
 refine Zpg (by decide) (by decide) fun zr H1 hzr E1 hz=>?_
 refine Zol hz (O9 sp b fa pa ha zr ns un) ⟨_,_,_,0,rfl,E1 _ _ hs,hz,E1 _ _ hb,M.kp (.ext E1),inv0,rfl,rfl,h.kp (.ext E1)⟩ ?_
 rintro J hJ k V' H' ⟨p6,p7,B,tot,rfl,hs1,hz1,hb1,M1,I1,hp1,hd1,h1⟩
 refine ⟨hz1,fun hk=>nx _ _ ?_,fun hk=>⟨show 6<12 by decide,?_⟩⟩
 ·have hk:k=3:=hk
  subst hk
  exact q H' p6 p7 B tot hs1 hb1 M1 I1 hp1 hd1 h1
 have hk3:k<3:=hk
 have hpl:k<pur9.length:=hk3
 have hnm:isNm pur9[k]=true:=Zcm _ (List.getElem_mem hpl)
 have htk:pur9.take (k+1)=pur9.take k++[pur9[k]]:=Zc1 (List.getElem?_eq_getElem hpl)
 have hnot:pur9[k] ∉ pur9.take k:=fun z=>by
  have:=htk▸pur9_nd.sublist (List.take_sublist (k+1) pur9)
  exact (List.nodup_append.mp this).2.2 _ z _ (.head _) rfl
 have hkF:Mine.hs B.free pur9[k]=false:=by
  cases e:Mine.hs B.free pur9[k] with
  | false=>rfl
  | true=>exact absurd ((Zbr I1.fk).mp e) hnot
 have hsk:pur9[k]? = some pur9[k]:=List.getElem?_eq_getElem hpl
 generalize pur9[k]=s at hnm htk hkF hsk
 show wpSs _ _ _ _ _ (VL sp b fa pa ha un (some (.int k)) p7 none none) _
 refine w_st fun K nx=>?_
 dsimp only [Zam,Zat,Zaz,Zae,Zah,Zai]
 intro z hz
 have E2:=Ext.refl.new (o:=.list (txs pur9)) hz
 refine Zou (xs:=txs pur9) (v:=.str s) Zac (by unfold txs;rw [List.getElem?_map,hsk];rfl) (by decide) ⟨show 7<12 by decide,nx _ _ ?_⟩
 rw [show (AObj.list [AV.str (Str.ofString "quay"),.str (Str.ofString "till"),.str (Str.ofString "mill")]) = .list (txs pur9) from rfl]
 generalize up H' z (.list (txs pur9))=H2 at E2
 show wpSs _ _ _ _ _ (VL sp b fa pa ha un (some (.int k)) (some (.str s)) none none) _
 have kp2:=Kp.ext E2
 refine w_st fun K nx=>?_
 dsimp only [Zam,Zau,Zad,List.getElem?_cons_succ,v_0,Zai,Zao,Zae,Zah]
 refine Zjp (n:=n+4) G rfl (by decide) (E2 _ _ hs1) hl (Zgw (n:=n+4) G rfl ?_)
 have m0:=Zcb (x:=mixed (cell ns (Int.toNat 1)) k) (m:=91) (by decide)
 have m1:=Zcy (x:=mixed (cell ns (Int.toNat 1)) k) (m:=91) (by decide)
 refine ⟨by decide,Zha m0 (by lia),?_⟩
 have a0:0≤(mixed (cell ns (Int.toNat 1)) k).fmod 91*un:=Int.mul_nonneg m0 (by lia)
 have a1:(mixed (cell ns (Int.toNat 1)) k).fmod 91*un≤91*un:=Int.mul_le_mul_of_nonneg_right (by lia) (by lia)
 generalize (mixed (cell ns (Int.toNat 1)) k).fmod 91*un=am at a0 a1
 refine Zew (M1.kp kp2) rfl rfl ?_ fun H3 M3 k3=>nx _ _ ?_
 ·have:=congrArg List.length I1.fk
  rw [List.length_map,List.length_take] at this
  lia
 have hb3:=k3.bk (E2 _ _ hb1)
 have S3:Ks H' H3:=(Ks.kp kp2).trans (.lk k3)
 have h3:=(h1.kp kp2).lk k3
 clear M1 k3 kp2 E2
 refine w_st fun K nx=>?_
 dsimp only [Zay,Zba,Zag,Bool.not_eq_eq_eq_not,Bool.not_true,Zao,Zae,Zah,Zad,List.getElem?_cons_succ,v_0]
 refine Zej (n:=n) G hb3 I1.ok (Kv.nm hnm).kn (by show (isNm s&&_)=false;rw [hkF,Bool.and_false]) (by show (if isNm s=true then pAt B.pacts s else none)=none;rw [hp1];exact ite_self _) fun H4 E4=>?_
 dsimp only [Zag]
 refine Eq.mpr (if_neg (by decide)) (nx _ _ ?_)
 have hb4:=E4 _ _ hb3
 have S4:=S3.trans (.kp (.ext E4))
 have h4:=h3.kp (.ext E4)
 have M4:=M3.kp (.ext E4)
 clear S3 h3 M3 E4 hb3
 refine w_st fun K nx=>?_
 dsimp only [Zar]
 refine Zb6 hM (by decide) (by decide) hb4 rfl ?_
 have hoq:Zlj B (.str s) = .ok { B with free:=pt B.free s 0,aside:=pt B.aside s 0 }:=by
  unfold Zlj
  rw [if_pos (show Zdu (.str s)=true from hnm),if_neg (by show ¬ Mine.hs B.free s=true;rw [hkF];decide)];rfl
 refine Zxl (n:=n+2) G U9.a hb4 (Kv.nm hnm).kn I1.ok.sz ?_
 rw [hoq]
 refine nx _ _ ?_
 obtain ⟨I5,hp5⟩:=I1.open hp1 (by rw [List.length_take];lia) hoq
 have kp5:=Kp.up (y:=.book { B with free:=pt B.free s 0,aside:=pt B.aside s 0 }) hb4
 have hb5:up H4 b (.book { B with free:=pt B.free s 0,aside:=pt B.aside s 0 }) b=some (.book { B with free:=pt B.free s 0,aside:=pt B.aside s 0 }):=Zac
 have S5:=S4.trans (.kp kp5)
 have h5:=h4.kp kp5
 have M5:=M4.kp kp5
 generalize up H4 b (.book { B with free:=pt B.free s 0,aside:=pt B.aside s 0 })=H5 at hb5 S5 h5 M5
 clear S4 h4 M4 kp5 hb4
 rw [show pur9.take k++[Zax (.str s)]=pur9.take (k+1) from htk.symm] at I5
 have hh:∀ {a:Int},Mine.hs (pt B.free s a) s=true:=fun {a}=>by unfold Mine.hs;rw [Zs3,if_pos rfl];rfl
 have hv:vl (pt B.free s am) s=am:=by rw [Zk8,if_pos rfl]
 have fin:∀ H6 B6 tot6,H6 b=some (.book B6)→B6.free=pt B.free s am→B6.pacts=[]→B6.day=0→Inv (pur9.take (k+1)) [] B6 tot6→Kp H5 H6→J (k+1) (VL sp b fa pa ha un (some (.int k)) (some (.str s)) none none) H6:=fun H6 B6 tot6 hb6 f6 p6 d6 I6 k6=>by
  have S6:=S5.trans (.kp k6)
  refine hJ _ _ _ ⟨_,_,B6,tot6,rfl,S6 _ _ rfl rfl rfl hs1,S6 _ _ rfl rfl rfl hz1,hb6,?_,I6,p6,d6,h5.kp k6⟩
  rw [f6,p6,← hp1];exact M5.kp k6
 refine Zc5 M5.f hh ?_
 rw [hv]
 by_cases h0:0<am
 ·refine Eq.mpr (if_pos (decide_eq_true h0)) ?_
  dsimp only [Zaw,Zar]
  refine Zb6 hM (by decide) (by decide) hb5 rfl ?_
  dsimp only [String.reduceAppend,Zae,Zah,Zat,Zad,List.getElem?_cons_succ,v_0]
  refine Zc5 M5.f hh ?_
  rw [hv]
  have hpq:putQ { B with free:=pt B.free s 0,aside:=pt B.aside s 0 } (.str s) (.int am) = .ok { B with free:=pt B.free s am,aside:=pt B.aside s 0 }:=by
   unfold putQ
   rw [if_pos (by show (isNm s&&Mine.hs (pt B.free s 0) s)=true;rw [hnm,hh];rfl),if_pos (show Zci (.int am)=true from decide_eq_true ⟨h0,by lia⟩)]
   show Except.ok { B with free:=pt (pt B.free s 0) s (vl (pt B.free s 0) s+am),aside:=pt B.aside s 0 } = _
   exact rl (Zk8 ..) (rl (if_pos rfl ..) (rl (Int.zero_add ..) (rl (Zz0 hkF ..) rfl)))
  refine Zxh (n:=n+2) G U9.a rfl hb5 (Kv.nm hnm).kn Kv.int.kn I5.ok.sz ?_
  rw [hpq]
  exact fin _ _ _ Zac rfl hp1 hd1 (I5.put hpq) (.up hb5)
 ·refine Eq.mpr (if_neg fun z=>h0 (of_decide_eq_true z)) ?_
  have:am=0:=by lia
  subst this
  exact fin H5 _ tot hb5 rfl hp1 hd1 I5 .refl
end
end Mine
end
section
namespace Mine
open L09
theorem Zwe {X:List Pc} {ts:List Addr} {x:Pc} {t:Addr} (hl:ts.length=X.length):dP (X++[x]) (ts++[t])=dP X ts++[(x.name,.ref t)]:=by
 induction X generalizing ts with
 | nil=>cases ts with
  | nil=>rfl
  | cons=>cases hl
 | cons q qs ih=>cases ts with
  | nil=>cases hl
  | cons a as =>
   show (q.name,AV.ref a)::dP (qs++[x]) (as++[t])=_
   refine rl (ih (Nat.succ.inj hl)) ?_;rfl
theorem Zvn {H:Zaa} {ps:List (Str×Int)} {K:List Addr→Zaa→Prop} (hk:∀ e∈ps,Kv (.str e.1)) (q:∀ ts H',Ext H H'→pairsH H' ts (P2 ps)→K ts H'):Zft H (dI ps) K:=by
 induction ps generalizing H K with
 | nil=>exact q [] H .refl trivial
 | cons e ps ih =>
  intro t ht
  have E1:=Ext.refl.new (o:=.tuple [.str e.1,.int e.2]) ht
  have h1:up H t (.tuple [.str e.1,.int e.2]) t=some (.tuple [.str e.1,.int e.2]):=Zac
  generalize up H t (.tuple [.str e.1,.int e.2])=H1 at E1 h1
  exact ih (fun e he=>hk e (.tail _ he)) fun ts H' e' hp=>q (t::ts) H' (E1.trans e') ⟨⟨rfl,e' _ _ h1,hk e (.head _),.int⟩,hp⟩
theorem Zw2 {m:Int} {ps:List (Str×Int)} (h:∀ e∈ps,1≤e.2∧e.2≤m):(ps.length:Int)≤sumL ps∧sumL ps≤ps.length*m:=by
 induction ps with
 | nil=>exact ⟨Int.le_refl 0,by rw [show ((([]:List (Str×Int)).length:Nat):Int)*m=0 from Int.zero_mul m];exact Int.le_refl 0⟩
 | cons e ps ih =>
  obtain ⟨i1,i2⟩:=ih fun e he=>h e (.tail _ he)
  obtain ⟨j1,j2⟩:=h e (.head _)
  have:sumL (e::ps)=e.2+sumL ps:=rfl
  refine rl (this ..) (rl (List.length_cons ..) (rl (Int.natCast_succ ..) (rl (Int.add_mul ..) (rl (Int.one_mul ..) ?_))))
  exact ⟨by lia,by lia⟩
section
variable {H:Zaa} {fa pa:Addr} {rs:List R9} {F:List (Str×Int)} {X:List Pc} {x:Pc} {d u t:Addr} {ep ed:Nat}
theorem Zva {H':Zaa} (hs:∀ r∈rs,r.pd≠pa) (kd:∀ a e es,a≠pa→H a=some (.dict e es)→H' a=some (.dict e es)) (kl:∀ a o,o.isD=false→H a=some o→H' a=some o) (h:All2 (Row9 H) rs X):All2 (Row9 H') rs X:=by
 induction rs generalizing X with
 | nil=>cases X with
  | nil=>trivial
  | cons=>exact h.elim
 | cons r rs ih=>cases X with
  | nil=>exact h.elim
  | cons x X =>
   obtain ⟨t,⟨e,d⟩,u⟩:=h.1
   exact ⟨⟨kl _ _ rfl t,⟨e,kd _ _ _ (hs r (.head _)) d⟩,kl _ _ rfl u⟩,ih (fun r h=>hs r (.tail _ h)) h.2⟩
theorem Mir.add (M:Mir H fa pa rs F X) (hd:H d=some (.dict ed (dI x.parts))) (h1:d≠fa) (h2:d≠pa) (hi:x.inside=[]) (hs:x.state = .opn) (hn:pAt X x.name=none) (hu:H u=none) (ht:up H u (.list []) t=none) :
  Mir (up (up (up H u (.list [])) t (.tuple [.ref d,.ref u,.str (S9 "open")])) pa (.dict ep (putS (dP X (rs.map (·.t))) x.name (.ref t)))) fa pa (rs++[⟨t,d,u⟩]) F (X++[x])∧Lk (rs.map (·.u)) H (up (up (up H u (.list [])) t (.tuple [.ref d,.ref u,.str (S9 "open")])) pa (.dict ep (putS (dP X (rs.map (·.t))) x.name (.ref t)))):=by
 have E2:=(Ext.refl.new (o:=.list []) hu).new (o:=.tuple [.ref d,.ref u,.str (S9 "open")]) ht
 have hu2:up (up H u (.list [])) t (.tuple [.ref d,.ref u,.str (S9 "open")]) u=some (.list []):=Zdf Zac ht
 have ht2:up (up H u (.list [])) t (.tuple [.ref d,.ref u,.str (S9 "open")]) t=some (.tuple [.ref d,.ref u,.str (S9 "open")]):=Zac
 generalize up (up H u (.list [])) t (.tuple [.ref d,.ref u,.str (S9 "open")])=H2 at E2 hu2 ht2
 have M2:=M.kp (.ext E2)
 obtain ⟨ef,hf⟩:=M2.f
 obtain ⟨epp,hp⟩:=M2.p
 have kd:∀ a e es,a≠pa→H2 a=some (.dict e es)→up H2 pa (.dict ep (putS (dP X (rs.map (·.t))) x.name (.ref t))) a=some (.dict e es):=fun a e es ha h=>by rw [Zab ha];exact h
 have kl:∀ a o,o.isD=false→H2 a=some o→up H2 pa (.dict ep (putS (dP X (rs.map (·.t))) x.name (.ref t))) a=some o:=fun a o ho h=>by
  rw [Zab fun q=>by rw [q,hp] at h;obtain rfl:=Option.some.inj h;cases ho];exact h
 refine ⟨⟨⟨ef,kd _ _ _ M.fp hf⟩,⟨ep,?_⟩,?_,?_,fun r hr=>?_,M.fp⟩,(Lk.ext E2).tr (.dict hp)⟩
 ·rw [Zac,List.map_append]
  show _=some (AObj.dict ep (dP (X++[x]) (rs.map (·.t)++[t])))
  rw [Zwe M.len]
  unfold putS
  exact rl (Zjm M.len) (rl hn (rl (if_neg (by exact Bool.false_ne_true)) rfl))
 ·refine All2.snoc ?_ ⟨?_,⟨ed,kd _ _ _ h2 (E2 _ _ hd)⟩,by rw [hi];exact kl _ _ rfl hu2⟩
  ·exact Zva (fun r h=>(M.sd r h).2) kd kl M2.r
  ·rw [hs];exact kl _ _ rfl ht2
 ·rw [List.map_append]
  refine List.nodup_append.mpr ⟨M.nu,List.nodup_cons.mpr ⟨List.not_mem_nil,List.nodup_nil⟩,fun a ha b hb q=>?_⟩
  rw [List.mem_singleton.mp hb] at q
  exact Zf2 M a ha (q▸hu)
 ·rcases List.mem_append.mp hr with hr | hr
  ·exact M.sd r hr
  ·rw [List.mem_singleton.mp hr];exact ⟨h1,h2⟩
end
end Mine
end
section
namespace Mine
open L09
theorem six9_nd:six9.Nodup:=by decide +kernel
theorem Zu1:∀ s∈six9,isNm s=true:=by decide +kernel
theorem Zr4:∀ s∈six9,s ∉ pur9:=by decide +kernel
theorem Zn4 {g:Gx} {V:VV} {Q:AV→Zaa→Prop} {E:String→Zaa→Prop} {H:Zaa} {e:X} {d:Addr} {ed:Nat} {ps:List (Str×Int)} (hm:g.md=true) (he:∀ Q,Q (.ref d) H→wpX g e V Q E H) (hd:H d=some (.dict ed (dI ps))) (hl:ps.length≤1000) (kvs:∀ e∈ps,Kv (.str e.1)) (q:∀ z ts H',Ext H H'→H' z=some (.list (ts.map .ref))→pairsH H' ts (P2 ps)→Q (.ref z) H'):wpX g (.prim .list [.bm e .items []]) V Q E H:=by
 dsimp only [Zal,Zae,Zah,x_bm]
 refine he _ ⟨?_,?_⟩
 ·show match H d with | some (.list _)=>_ | some (.dict _ _)=>_ | _=>False
  refine rl hd ?_;exact .inr (.inr rfl)
 refine rl Z0a (rl hd ?_)
 intro i hi
 have E1:=Ext.refl.new (o:=.itms d) hi
 (dsimp only [Zdt];refine rl Zac ?_;dsimp only;refine rl (E1 _ _ hd) ?_)
 refine ⟨hm,by refine rl Zc4 ?_;exact Nat.le_trans hl (by decide),Zvn kvs fun ts H2 E2 hp z hz=>?_⟩
 exact q z ts _ ((E1.trans E2).new hz) Zac (hp.ext (Ext.refl.new hz))
inductive T9 (sp b fa pa ha zr:Addr) (ns:List Int) (un:Int) (p7:Option AV) (k:Nat) (V':VV) (H':Zaa):Prop
 | mk (p6 p8 p9:Option AV) (B:Bk) (rs:List R9) (tot:Int) (ks:List (Str×List (Str×Int))) (hV:V'=VL sp b fa pa ha un p6 p7 p8 p9) (hs:H' sp=some (.script ns)) (hz:H' zr=some (.range 0 6)) (hb:H' b=some (.book B)) (M:Mir H' fa pa rs B.free B.pacts) (I:Inv pur9 ks B tot) (ho:∀ x∈B.pacts,x.state = .opn) (hd:B.day=0) (h:Hl H' ha (rs.map (·.u)) 0) (gk:Gok (B.pacts.map sig)) (hn:B.pacts.map (·.name)=six9.take k)
section
variable {c:Cx} (G:Gd c L09.P) {n:Nat} {QN:VV→Zaa→Prop} {Q:AV→Zaa→Prop} {E:String→VV→Zaa→Prop} {H:Zaa} {sp b fa pa ha zr:Addr} {ns:List Int} {un:Int} {B:Bk} {tot:Int}
include G
theorem Zzj {V:VV} {EE:String→Zaa→Prop} {d:Addr} {ed:Nat} {s:Str} {ps:List (Str×Int)} {K:AV→Zaa→Prop} (h1:V[1]? = some (some (.ref b))) (h8:V[8]? = some (some (.ref d))) (h9:V[9]? = some (some (.str s))) (ks:List (Str×List (Str×Int))) (hb:H b=some (.book B)) (I:Inv pur9 ks B tot) (hd:H d=some (.dict ed (dI ps))) (r:Zwr pur9 s ps [(quay,sumL ps)] [] 0) (ns:isNm s=true) (ht:pAt B.pacts s=none) (ho:∀ x∈B.pacts,x.state = .opn) (h0:B.day=0)
  (q:∀ H1,Ext H H1→K .none (up H1 b (.book { B with pacts:=B.pacts++[⟨s,ps,[(quay,sumL ps)],[],0,.opn,[]⟩] }))):wpX ⟨c,n+5,true⟩ (.meth (.var 1) "tell" [(.var 9),(.prim .list [(.bm (.var 8) .items [])]),(.list [(.tuple [(.lit (.str (Str.ofString "quay"))),(.prim .sum [(.bm (.var 8) .values [])])])]),(.list []),(.lit (.int 0))]) V K EE H:=by
 have hM:c.P.meths=BK.meths:=by refine rl G.hP ?_;rfl
 have kvs:∀ e∈ps,Kv (.str e.1):=fun e he=>.nm (Zcm _ (r.p.m e he).1)
 have h8':∀ H' (Q:AV→Zaa→Prop),Q (.ref d) H'→wpX ⟨c,n+5,true⟩ (.var 8) V Q EE H':=fun H' Q q=>by dsimp only [Zad];refine rl h8 ?_;exact q
 refine Zb6 hM (by decide) (by decide) hb h1 ?_
 dsimp only [Zae,Zah,Zaz,Zai,Zbj,Zad]
 refine rl h9 ?_
 dsimp only
 refine Zn4 rfl (h8' _) hd (Nat.le_trans r.p.l.2 (by decide)) kvs fun pl ts H3 E3 hpl3 hp3=>?_
 refine Zmb rfl (h8' _) ⟨_,E3 _ _ hd⟩ fun H4 F4=>?_
 intro t ht4 gl hgl nl hnl
 have F7:=((F4.new (o:=.tuple [.str (Str.ofString "quay"),.int (sumL ps)]) ht4).new (o:=.list [.ref t]) hgl).new (o:=.list []) hnl
 have t7:=Zdf (o:=.list []) (Zdf (o:=.list [.ref t]) (Zac (H:=H4) (a:=t) (o:=.tuple [.str (Str.ofString "quay"),.int (sumL ps)])) hgl) hnl
 have g7:=Zdf (o:=.list []) (Zac (H:=up (H4) t (.tuple [.str (Str.ofString "quay"),.int (sumL ps)])) (a:=gl) (o:=.list [.ref t])) hnl
 have n7:=Zac (H:=up (up (H4) t (.tuple [.str (Str.ofString "quay"),.int (sumL ps)])) gl (.list [.ref t])) (a:=nl) (o:=.list [])
 generalize up (up (up (H4) t (.tuple [.str (Str.ofString "quay"),.int (sumL ps)])) gl (.list [.ref t])) nl (.list [])=H7 at F7 t7 g7 n7
 have E7:=E3.trans F7
 refine Zwz (n:=n+1) (ts:=ts) (us:=[t]) (pL:=P2 ps) (gL:=P2 [(quay,sumL ps)]) (nL:=txs []) G U9 rfl rfl rfl rfl (by refine rl G.hP ?_;rfl) (E7 _ _ hb) I.ok (.nm ns) .int (F7 _ _ hpl3) (hp3.ext F7) g7 ⟨⟨rfl,t7,.nm (Zcm quay (.head _)),.int⟩,trivial⟩ n7 (fun v hv=>by contradiction) (by refine rl Zuo ?_;exact Nat.le_trans r.p.l.2 (by decide)) (show 1≤1000 by decide) (show 0≤1000 by decide) ?_
 refine rl (Zoo r I.fk Zcm ns ht ho h0) ?_
 exact q H7 E7
theorem Zzg (u0:1≤un) (u1:un≤1000000000000000000000000000) (hl:ns.length<2 ^ 62) {p6 p7:Option AV} (hs:H sp=some (.script ns)) (hb:H b=some (.book B)) (M:Mir H fa pa [] B.free B.pacts) (I:Inv pur9 [] B tot) (hp:B.pacts=[]) (hd:B.day=0) (h:Hl H ha [] 0) {rest:List S}
  (q:∀ H' p6 p8 p9 Gs,H' sp=some (.script ns)→Gok Gs→Gs.map (·.1)=six9→L9 H' b fa pa ha Gs 0→wpSs ⟨c,n+5,true⟩ rest QN Q E (VL sp b fa pa ha un p6 p7 p8 p9) H') :
  wpSs ⟨c,n+5,true⟩ ((L09.f_law.body.drop 7).take 1++rest) QN Q E (VL sp b fa pa ha un p6 p7 none none) H:=by
 show wpSs _ (_::rest) _ _ _ _ _
 refine w_st fun K nx=>?_
 dsimp only [Zb3]
 refine ⟨rfl,?_⟩
 dsimp only [Zal,wtg,Zae,Zah,Zai]
 refine Zpg (by decide) (by decide) fun zr H1 hzr E1 hz=>?_
 refine Zol hz (T9 sp b fa pa ha zr ns un p7) ⟨_,_,_,B,[],tot,[],rfl,E1 _ _ hs,hz,E1 _ _ hb,M.kp (.ext E1),I,(by refine rl hp ?_;exact fun x hx=>by contradiction),hd,h.kp (.ext E1),(by refine rl hp ?_;exact ⟨fun e he=>by contradiction⟩),(by refine rl hp ?_;rfl)⟩ ?_
 rintro J hJ k V' H' ⟨p6,p8,p9,B,rs,tot,ks,rfl,hs1,hz1,hb1,M1,I1,ho1,hd1,h1,gk1,hn1⟩
 refine ⟨hz1,fun hk=>nx _ _ ?_,fun hk=>⟨show 6<12 by decide,?_⟩⟩
 ·have hk:k=6:=hk
  subst hk
  exact q H' p6 p8 p9 _ hs1 gk1 (by refine rl List.map_map ?_;exact hn1) ⟨B,rs,tot,ks,hb1,M1,I1,rfl,h1⟩
 have hk6:k<6:=hk
 have hpl:k<six9.length:=hk6
 have hmem:=List.getElem_mem hpl
 have hnm:isNm six9[k]=true:=Zu1 _ hmem
 have hnp:=Zr4 _ hmem
 have htk:six9.take (k+1)=six9.take k++[six9[k]]:=Zc1 (List.getElem?_eq_getElem hpl)
 have hnot:pAt B.pacts six9[k]=none:=by
  cases e:pAt B.pacts six9[k] with
  | none=>rfl
  | some e' =>
   have g:=Zbb (j:=e'.1) (q:=e'.2) e
   have z:six9[k]∈six9.take k:=by refine rl hn1.symm (rl g.2.symm ?_);exact List.mem_map_of_mem (List.mem_of_getElem? g.1)
   have:=htk▸six9_nd.sublist (List.take_sublist (k+1) six9)
   exact absurd rfl ((List.nodup_append.mp this).2.2 _ z _ (.head _))
 have hsk:six9[k]? = some six9[k]:=List.getElem?_eq_getElem hpl
 have hlen:B.pacts.length≤6:=by
  have:=congrArg List.length hn1
  rw [List.length_map,List.length_take] at this
  refine rl this ?_;exact Nat.le_trans (Nat.min_le_right ..) (by decide)
 clear hmem
 generalize six9[k]=s at hnm htk hnp hsk hnot
 show wpSs _ _ _ _ _ (VL sp b fa pa ha un (some (.int k)) p7 p8 p9) _
 refine w_st fun K nx=>?_
 dsimp only [Zam,tv,List.length_cons,List.length_nil,Nat.reduceAdd,List.set_cons_succ,List.set_cons_zero,Zao,Zae,Zah,Zad,List.getElem?_cons_succ,v_0,Zau,Zai,Zct]
 refine Zjp (n:=n+4) G rfl (by lia) hs1 hl (Zgw (n:=n+4) G rfl ?_)
 refine Zno (n:=n+4) G u0 fun H2 d ps ed E2 hd0 hd2 pk pm pl=>⟨by decide,nx _ _ ?_⟩
 obtain ⟨⟨_,hf1⟩,⟨_,hp1⟩⟩:=And.intro M1.f M1.p
 have dfa:d≠fa:=(Zke hf1 hd0).symm
 have dpa:d≠pa:=(Zke hp1 hd0).symm
 show wpSs _ _ _ _ _ (VL sp b fa pa ha un (some (.int k)) p7 (some (.ref d)) p9) _
 refine w_st fun K nx=>?_
 dsimp only [Zam,Zat,Zaz,Zae,Zah,Zai]
 intro z hz
 have E3:=Ext.refl.new (o:=.list (txs six9)) hz
 refine Zou (xs:=txs six9) (v:=.str s) Zac (by unfold txs;refine rl (List.getElem?_map) (rl hsk ?_);rfl) (by decide) ⟨show 9<12 by decide,nx _ _ ?_⟩
 refine rl (show (AObj.list [AV.str (Str.ofString "one"),.str (Str.ofString "two"),.str (Str.ofString "three"),.str (Str.ofString "four"),.str (Str.ofString "five"),.str (Str.ofString "six")]) = .list (txs six9) from rfl) ?_
 generalize up H2 z (.list (txs six9))=H3 at E3
 show wpSs _ _ _ _ _ (VL sp b fa pa ha un (some (.int k)) p7 (some (.ref d)) (some (.str s))) _
 have E13:=E2.trans E3
 have M3:=M1.kp (.ext E13)
 have h3:=h1.kp (.ext E13)
 have hd3:=E3 _ _ hd2
 refine w_st fun K nx=>?_
 dsimp only [Zam,Zbj,Zae,Zah,Zad,Zaz,Zai]
 intro u hu t ht
 obtain ⟨ep,hp3⟩:=M3.p
 refine Zpa (fun _ q=>q) (fun _ q=>q) (Zdf (Zdf hp3 hu) ht) ?_ fun ep'=>nx _ _ ?_
 ·have:=congrArg List.length (Ztn M3.len)
  rw [List.length_map,List.length_map] at this
  refine rl this ?_;exact Nat.le_trans hlen (by decide)
 obtain ⟨M4,k4⟩:=M3.add (x:=⟨s,ps,[(quay,sumL ps)],[],0,.opn,[]⟩) (ep:=ep') hd3 dfa dpa rfl rfl hnot hu ht
 have hd4:up (up (up H3 u (.list [])) t (.tuple [.ref d,.ref u,.str (S9 "open")])) pa (.dict ep' (putS (dP B.pacts (rs.map (·.t))) s (.ref t))) d=some (.dict ed (dI ps)):=by
  refine rl (Zab dpa) ?_;exact Zdf (Zdf hd3 hu) ht
 have h4:=h3.lkc (us':=(rs++[(⟨t,d,u⟩:R9)]).map (·.u)) k4 fun v hv=>by
  rw [List.map_append] at hv
  rcases List.mem_append.mp hv with hv | hv
  ·exact .inl hv
  ·refine rl (List.mem_singleton.mp hv) ?_;exact .inr hu
 have S4:Ks H' (up (up (up H3 u (.list [])) t (.tuple [.ref d,.ref u,.str (S9 "open")])) pa (.dict ep' (putS (dP B.pacts (rs.map (·.t))) s (.ref t)))):=(Ks.kp (.ext E13)).trans (.lk k4)
 have hb4:=k4.bk (E13 _ _ hb1)
 show wpSs _ _ _ _ _ _ (up (up (up H3 u (.list [])) t (.tuple [.ref d,.ref u,.str (S9 "open")])) pa (.dict ep' (putS (dP B.pacts (rs.map (·.t))) s (.ref t))))
 generalize up (up (up H3 u (.list [])) t (.tuple [.ref d,.ref u,.str (S9 "open")])) pa (.dict ep' (putS (dP B.pacts (rs.map (·.t))) s (.ref t)))=H4 at M4 hd4 h4 S4 hb4
 refine w_st fun K nx=>?_
 dsimp only [Zay,Zba,Zag,Bool.not_eq_eq_eq_not,Bool.not_true,Zao,Zae,Zah,Zad,List.getElem?_cons_succ,v_0]
 refine Zej (n:=n) G hb4 I1.ok (Kv.nm hnm).kn ?_ (by refine rl (Zen I1) ?_;exact hnot) fun H5 E5=>?_
 ·refine rl (Zc9 I1 Zcm) ?_
  cases e:Mine.hs B.free s with
  | false=>rfl
  | true=>exact absurd ((Zbr I1.fk).mp e) hnp
 dsimp only [Zag]
 refine Eq.mpr (if_neg (by decide)) (nx _ _ ?_)
 have sb:=Zw2 (m:=30*un) fun e he=>(pm e he).2
 have hsum:sumL ps≤90*un:=Int.le_trans sb.2 (Int.le_trans (Int.mul_le_mul_of_nonneg_right (show (ps.length:Int)≤3 by lia) (by lia)) (by lia))
 have rw9:Zwr pur9 s ps [(quay,sumL ps)] [] 0:=⟨⟨pk,fun e he=>⟨(pm e he).1,(pm e he).2.1,by have:=(pm e he).2.2;lia⟩,pl.1,by lia⟩,⟨List.nodup_cons.mpr ⟨List.not_mem_nil,List.nodup_nil⟩,(fun e he=>by refine rl (List.mem_singleton.mp he) ?_;exact ⟨.head _,show 1≤sumL ps by lia,show sumL ps≤_ by lia⟩),show 1≤1∧1≤8 by decide⟩,(Int.add_zero (sumL ps)).symm,List.nodup_cons.mpr ⟨List.not_mem_nil,List.nodup_nil⟩,(fun s hs=>by contradiction),Nat.zero_le _,Int.le_refl 0⟩
 dsimp only [Zaw,Zar]
 refine Zzj (n:=n) G rfl rfl rfl ks (E5 _ _ hb4) I1 (E5 _ _ hd4) rw9 hnm hnot ho1 hd1 fun H6 E6=>?_
 have S6:=S4.trans (.kp (.ext (E5.trans E6)))
 have kp:=Kp.up (y:=.book { B with pacts:=B.pacts++[⟨s,ps,[(quay,sumL ps)],[],0,.opn,[]⟩] }) (E6 _ _ (E5 _ _ hb4))
 obtain ⟨_,_,_,_,I7⟩:=I1.tell (by lia) (Zoo rw9 I1.fk Zcm hnm hnot ho1 hd1)
 have S7:=S6.trans (.kp kp)
 refine hJ _ _ _ ⟨_,_,_,{ B with pacts:=B.pacts++[⟨s,ps,[(quay,sumL ps)],[],0,.opn,[]⟩] },_,tot,_,rfl,S7 _ _ rfl rfl rfl hs1,S7 _ _ rfl rfl rfl hz1,Zac,(M4.kp (.ext (E5.trans E6))).kp kp,I7,fun x hx=>?_,hd1,(h4.kp (.ext (E5.trans E6))).kp kp,⟨fun e he=>?_⟩,?_⟩
 ·rcases List.mem_append.mp hx with hx | hx
  ·exact ho1 x hx
  ·exact rl (List.mem_singleton.mp hx) rfl
 ·rw [List.map_append] at he
  rcases List.mem_append.mp he with he | he
  ·exact gk1.g e he
  ·refine rl (List.mem_singleton.mp he) ?_;exact ⟨rfl,rfl,pl.1⟩
 ·refine rl List.map_append (rl hn1 (rl htk ?_));rfl
end
end Mine
end
section
namespace Mine
open L09
abbrev VM (sp b fa pa ha:Addr) (un:Int) (p6 p7 p8 p9 p10 p11:Option AV):VV:=[some (.ref sp),some (.ref b),some (.ref fa),some (.ref pa),some (.ref ha),some (.int un),p6,p7,p8,p9,p10,p11]
inductive D9 (sp b fa pa ha zr:Addr) (ns:List Int) (un m:Int) (Gs:Sg) (p7 p8 p9 p10:Option AV) (k:Nat) (V':VV) (H':Zaa):Prop
 | mk (p6:Option AV) (hV:V'=VM sp b fa pa ha un p6 p7 p8 p9 p10 none) (hs:H' sp=some (.script ns)) (hz:H' zr=some (.range 0 m)) (L:L9 H' b fa pa ha Gs (219*k))
section
variable {c:Cx} (G:Gd c L09.P) {n:Nat} {QN:VV→Zaa→Prop} {Q:AV→Zaa→Prop} {E:String→Zaa→Prop} {EE:String→VV→Zaa→Prop} {H:Zaa} {sp b fa pa ha zr:Addr} {ns:List Int} {un tn:Int} {Gs:Sg} {N:Nat} {p6 p7 p8 p9 p10:Option AV}
include G
omit G in
theorem k30 {m:Int} {k:Nat} (h:m≤30):(k=m.toNat→219*k≤6570)∧(k<m.toNat→219*k≤6351):=by lia
theorem Zw8 (gn:Gs.map (·.1)=six9) (L:L9 H b fa pa ha Gs N) (hN:N+218≤9000) (q:∀ H',L9 H' b fa pa ha Gs (N+218)→Ks H H'→Q (.bool true) H'):CallOK c (n+6) true "_law_same" [.ref b,.ref fa,.ref pa,.int tn,.ref ha] Q E H:=by
 obtain ⟨B,rs,tot,ks,hb,M,I,sg,Hh⟩:=L
 obtain ⟨_,hl0⟩:=Hh.at
 have l1:=congrArg List.length I.fk
 rw [List.length_map] at l1
 have l2:=congrArg List.length gn
 rw [List.length_map,← sg,List.length_map] at l2
 refine Zu3 G hb M I Zcm Hh hN (by refine rl l1 ?_;decide) (by refine rl l2 ?_;decide) fun H' kb h'=>q H' ⟨B,rs,tot,ks,kb _ _ (fun z=>by rw [z,hl0] at hb;cases hb) hb,M.kb Hh.n hl0 kb,I,sg,h'⟩ fun a x _ xl _ h=>kb _ _ (fun z=>by rw [z,hl0] at h;cases h;cases xl) h
theorem Zy1 (gk:Gok Gs) (gn:Gs.map (·.1)=six9) (u0:1≤un) (u1:un≤1000000000000000000000000000) (hl:ns.length≤63) (hs:H sp=some (.script ns)) (L:L9 H b fa pa ha Gs 0) {rest:List S}
  (q:∀ H' p6,H' sp=some (.script ns)→L9 H' b fa pa ha Gs 6570→wpSs ⟨c,n+6,true⟩ rest QN Q EE (VM sp b fa pa ha un p6 p7 p8 p9 (some (.int 30)) none) H') :
  wpSs ⟨c,n+6,true⟩ ((L09.f_law.body.drop 10).take 1++rest) QN Q EE (VM sp b fa pa ha un p6 p7 p8 p9 (some (.int 30)) none) H:=by
 show wpSs _ (_::rest) _ _ _ _ _
 refine w_st fun K nx=>?_
 dsimp only [Zb3]
 refine ⟨rfl,?_⟩
 dsimp only [Zal,wtg,Zae,Zah,Zad,v_0,List.getElem?_cons_succ]
 refine Zuj hs (Nat.le_trans hl (by decide)) ?_
 refine rl Zz2 ?_
 refine ⟨rfl,?_⟩
 generalize hm:(if (ns.length:Int)<30 then (ns.length:Int) else 30)=m
 have m0:0≤m∧m≤30∧m≤ns.length:=by
  refine rl hm.symm ?_;split<;>lia
 refine Zpg m0.1 (by lia) fun zr H1 hzr E1 hz=>?_
 refine Zol hz (D9 sp b fa pa ha zr ns un m Gs p7 p8 p9 (some (.int 30))) ⟨_,rfl,E1 _ _ hs,hz,L.ext E1⟩ ?_
 rintro J hJ k V' H' ⟨p6,rfl,hs1,hz1,L1⟩
 refine ⟨hz1,fun hk=>nx _ _ ?_,fun hk=>⟨show 6<12 by decide,?_⟩⟩
 ·refine q H' p6 hs1 ?_
  obtain ⟨B,rs,tot,ks,hb,M,I,sg,Hh⟩:=L1
  exact ⟨B,rs,tot,ks,hb,M,I,sg,Hh.le ((k30 m0.2.1).1 hk)⟩
 have hkn:k<ns.length:=by lia
 have hl1:ns.length≤1000:=Nat.le_trans hl (by decide)
 show wpSs _ _ _ _ _ (VM sp b fa pa ha un (some (.int k)) p7 p8 p9 (some (.int 30)) none) _
 refine w_st fun K nx=>?_
 dsimp only [Zay,Zba,Zag,Bool.not_eq_eq_eq_not,Bool.not_true,Zao,Zae,Zah,Zad,List.getElem?_cons_succ,v_0,Zau,Zai,Zct,Zat]
 refine Zt0 hs1 hkn hl1 fun i=>Zgw (n:=n+5) G rfl ?_
 refine Zwd (n:=n) G gk L1 (Nat.le_trans ((k30 m0.2.1).2 hk) (by decide)) u0 u1 fun H2 L2 S2=>?_
 dsimp only [Zag]
 refine Eq.mpr (if_neg (by decide)) (nx _ _ ?_)
 have hs2:=S2 _ _ rfl rfl rfl hs1
 dsimp only [Zaw,Zay,Zba,Zag,Bool.not_eq_eq_eq_not,Bool.not_true,Zao,Zae,Zah,Zad,List.getElem?_cons_succ,v_0,Zau,Zai,Zct,Zat]
 refine Zt0 hs2 hkn hl1 fun i=>Zgw (n:=n+5) G rfl ?_
 refine ⟨by decide,?_⟩
 refine Zw8 (n:=n) G gn L2 (Nat.le_trans (Nat.add_le_add_right ((k30 m0.2.1).2 hk) 219) (by decide)) fun H3 L3 S3=>?_
 dsimp only [Zag]
 refine Eq.mpr (if_neg (by decide)) (hJ _ _ _ ⟨_,rfl,S3 _ _ rfl rfl rfl hs2,S3 _ _ rfl rfl rfl (S2 _ _ rfl rfl rfl hz1),?_⟩)
 refine rl (show 219*(k+1)=219*k+1+218 from Nat.mul_succ 219 k) ?_
 exact L3
theorem Z0i {V:VV} (h4:V[4]? = some (some (.ref ha))) (hl:V.length=12) (L:L9 H b fa pa ha Gs N) (hN:N≤9000) (q:∀ H',Ext H H'→Q (.bool false) H'):wpX ⟨c,n+6,true⟩ (.cmp .NotEq (.comp (.var 12) 1 false (.var 4) (some (.cmp .NotEq (.sub (.var 12) (.lit (.int 0))) (.sub (.var 12) (.lit (.int 1)))))) (.list [])) V Q E H:=by
 obtain ⟨_,_,_,_,_,_,_,_,hs,h1,h2,h3,_⟩:=L
 refine ⟨rfl,?_⟩
 dsimp only [Zad]
 refine rl h4 ?_
 show Zk5 _ _ (.ref ha) _
 refine Zdy (xs:=hs.map .ref) (by simp only [Zap,h1]) (by refine rl (List.length_map ..) ?_;exact Nat.le_trans h2 (Nat.le_trans hN (by decide))) (fun _=>none) (fun v hv nx hnx=>?_) fun z hz=>?_
 ·obtain ⟨h,hh,rfl⟩:=List.mem_map.mp hv
  obtain ⟨f1,f2,l,q1,q2,q3,_⟩:=h3 h hh
  have hv12:(V++[some (.ref h)])[12]? = some (some (.ref h)):=by refine rl (List.getElem?_append_right (by rw [hl];exact Nat.le_refl _)) (rl hl ?_);rfl
  (refine Eq.mpr (if_neg Bool.false_ne_true) ?_;dsimp only [Zbs,Zan,Zat,Zad,Zai])
  refine rl hv12 ?_
  refine Zjy (j:=0) q1 rfl (show 2≤1000 by decide) ?_
  refine Zjy (j:=1) q1 rfl (show 2≤1000 by decide) ?_
  dsimp only [Ztr]
  refine Zg1 q2 q3 ?_
  refine rl (decide_eq_true rfl) ?_
  exact hnx
 ·refine rl (show (hs.map AV.ref).filterMap (fun _=>none)=txs [] from by rw [List.filterMap_eq_nil_iff.mpr fun _ _=>rfl];rfl) ?_
  intro z2 hz2
  refine Zg1 (l:=[]) (l':=[]) (Zdf Zac hz2) Zac ?_
  exact q _ ((Ext.refl.new hz).new hz2)
end
end Mine
end
section
namespace Mine
open L09
section
variable {B:Bk} {ks:List (Str×List (Str×Int))} {tot:Int} {Gs:Sg} {s:Str}
theorem Zsq (I:Inv pur9 ks B tot) (h:s ∉ pur9):Za6 B (.str s)=false:=by
 refine rl (Zc9 I Zcm) ?_
 cases e:Mine.hs B.free s with
 | false=>rfl
 | true=>exact absurd ((Zbr I.fk).mp e) h
theorem Zvl (I:Inv pur9 ks B tot) (sg:B.pacts.map sig=Gs) (gn:Gs.map (·.1)=six9) (h:s ∉ six9):Zbl B (.str s)=none:=by
 refine rl (Zen I) ?_
 cases e:pAt B.pacts s with
 | none=>rfl
 | some e' =>
  have g:=Zbb (j:=e'.1) (q:=e'.2) e
  rw [← gn,← sg,List.map_map,← g.2] at h
  exact absurd (List.mem_map_of_mem (f:=fun x=>(sig x).1) (List.mem_of_getElem? g.1)) h
end
theorem Zxy:∀ s∈[S9 "seven",S9 "hill",S9 ""],s ∉ pur9∧s ∉ six9∧s.length<10:=by decide +kernel
section
variable {c:Cx} (G:Gd c L09.P) {n:Nat} {H:Zaa} {sp b fa pa ha:Addr} {ns:List Int} {un:Int} {Gs:Sg} {p6 p7 p8 p9 p10:Option AV}
include G
theorem end9 (gn:Gs.map (·.1)=six9) (hl:ns.length<2 ^ 62) (hs:H sp=some (.script ns)) (L:L9 H b fa pa ha Gs 6570):wpSs ⟨c,n+6,true⟩ (L09.f_law.body.drop 11) (fun _ H=>AV.none = .bool true) (fun v _=>v = .bool true) (fun _ _ _=>False) (VM sp b fa pa ha un p6 p7 p8 p9 p10 none) H:=by
 refine w_st fun K nx=>?_
 dsimp only [Zay,x_ao,Zav,Za7,Zba,Zao,Zae,Zah,Zad,Zai]
 show CallOK _ _ _ "_law_same" [.ref b,.ref fa,.ref pa,.int 0,.ref ha] _ _ _
 refine Zw8 (n:=n) G gn L (by decide) fun H1 L1 S1=>?_
 dsimp only [Zag]
 refine Eq.mpr (if_pos rfl) ?_
 refine Z0i (n:=n) (b:=b) (fa:=fa) (pa:=pa) (N:=6788) G rfl rfl L1 (by decide) fun H2 E2=>?_
 dsimp only [Zag]
 refine Eq.mpr (if_neg (by decide)) (nx _ _ ?_)
 have L2:=L1.ext E2
 have hs2:=E2 _ _ (S1 _ _ rfl rfl rfl hs)
 refine w_st fun K nx=>?_
 dsimp only [Zam,Zat,Zaz,Zae,Zah,Zai]
 intro a ha3 z hz
 dsimp only [tv,List.length_cons,List.length_nil,Nat.reduceAdd,List.set_cons_succ,List.set_cons_zero,Zau,Zai,Zao,Zae,Zah,Zad,v_0]
 have E3:=(Ext.refl.new (o:=.list [.str (Str.ofString "one")]) ha3).new (o:=.list [.str (Str.ofString "seven"),.str (Str.ofString "hill"),.int 7,.none,.ref a,.str (Str.ofString "")]) hz
 have a3:=Zdf (o:=.list [.str (Str.ofString "seven"),.str (Str.ofString "hill"),.int 7,.none,.ref a,.str (Str.ofString "")]) (Zac (H:=H2) (a:=a) (o:=.list [.str (Str.ofString "one")])) hz
 have z3:=Zac (H:=up H2 a (.list [.str (Str.ofString "one")])) (a:=z) (o:=.list [.str (Str.ofString "seven"),.str (Str.ofString "hill"),.int 7,.none,.ref a,.str (Str.ofString "")])
 generalize up (up H2 a (.list [.str (Str.ofString "one")])) z (.list [.str (Str.ofString "seven"),.str (Str.ofString "hill"),.int 7,.none,.ref a,.str (Str.ofString "")])=H3 at E3 a3 z3
 have L3:=L2.ext E3
 refine Zjp (n:=n+5) G rfl (by decide) (E3 _ _ hs2) hl ⟨by decide,by decide,?_⟩
 refine Zg5 z3 (Zcb (by decide)) (Zcy (by decide)) (by show 6≤1000;decide) fun v hv=>⟨show 11<12 by decide,nx _ _ ?_⟩
 obtain ⟨B,rs,tot,ks,hb,M,I,sg,Hh⟩:=L3
 have hodd:∀ s∈[S9 "seven",S9 "hill",S9 ""],Kn H3 (.str s)∧Za6 B (.str s)=false∧Zbl B (.str s)=none:=fun s hm=>by
  obtain ⟨o1,o2,o3⟩:=Zxy s hm
  exact ⟨(Kv.str (Nat.lt_trans o3 (by decide))).kn,Zsq I o1,Zvl I sg gn o2⟩
 obtain ⟨kv,h1,h2⟩:Kn H3 v∧Za6 B v=false∧Zbl B v=none:=by
  simp only [List.mem_cons,List.not_mem_nil,or_false] at hv
  rcases hv with rfl | rfl | rfl | rfl | rfl | rfl
  ·exact hodd _ (.head _)
  ·exact hodd _ (.tail _ (.head _))
  ·exact ⟨Kv.int.kn,rfl,rfl⟩
  ·exact ⟨Kv.none.kn,rfl,rfl⟩
  ·exact ⟨Kq.kn (.inr ⟨a,_,rfl,a3⟩),rfl,rfl⟩
  ·exact hodd _ (.tail _ (.tail _ (.head _)))
 dsimp only [Zaw,Zbh,x_ao,Zav,Za7,Zao,Zae,Zah,Zad]
 show CallOK _ _ _ "_law_questions" [.ref b,v] _ _ _
 refine Zej (n:=n+1) G hb I.ok kv h1 h2 fun H4 E4=>?_
 dsimp only [Zag]
 refine Eq.mpr (if_pos rfl) ?_
 refine Znk (n:=n+1) G (E4 _ _ hb) I.ok (by refine rl (Zc9 I Zcm) ?_;exact (Zbr I.fk).mpr (.tail _ (.head _))) (hodd _ (.head _)).2.2 fun _=>rfl
theorem Zvu (h:H sp=some (.script ns)) (hl:ns.length≤63):CallOK c (n+7) true "law" [.ref sp] (fun v _=>v = .bool true) (fun _ _=>False) H:=by
 refine G.call (F:=L09.f_law) rfl rfl ?_
 have hl2:ns.length<2 ^ 62:=by lia
 show wpSs _ L09.f_law.body _ _ _ [some (.ref sp),none,none,none,none,none,none,none,none,none,none,none] _
 refine w_st fun K nx=>?_
 dsimp only [Zam]
 refine Zsr (c:=c) rfl G U9.a ⟨_,rfl⟩ fun b hb=>⟨show 1<12 by decide,nx _ _ ?_⟩
 have hb1:up H b (.book ⟨0,[],[],[]⟩) b=some (.book ⟨0,[],[],[]⟩):=Zac
 have hs1:up H b (.book ⟨0,[],[],[]⟩) sp=some (.script ns):=Zdf h hb
 generalize up H b (.book ⟨0,[],[],[]⟩)=H1 at hb1 hs1
 refine w_st fun K nx=>?_
 dsimp only [Zam,Zaq]
 intro fa hfa
 refine ⟨show 2<12 by decide,nx _ _ ?_⟩
 have E2:=Ext.refl.new (o:=.dict 0 []) hfa
 have f2:up H1 fa (.dict 0 []) fa=some (.dict 0 (dI [])):=Zac
 generalize up H1 fa (.dict 0 [])=H2 at E2 f2
 refine w_st fun K nx=>?_
 dsimp only [Zam,Zaq]
 intro pa hpa
 refine ⟨show 3<12 by decide,nx _ _ ?_⟩
 have E3:=Ext.refl.new (o:=.dict 0 []) hpa
 have p3:up H2 pa (.dict 0 []) pa=some (.dict 0 (dP [] [])):=Zac
 have hfp:fa≠pa:=Zke f2 hpa
 generalize up H2 pa (.dict 0 [])=H3 at E3 p3
 refine w_st fun K nx=>?_
 dsimp only [Zam,Zaz,Zah]
 intro ha hha
 refine ⟨show 4<12 by decide,nx _ _ ?_⟩
 have E4:=Ext.refl.new (o:=.list []) hha
 have h4:up H3 ha (.list []) ha=some (.list []):=Zac
 generalize up H3 ha (.list [])=H4 at E4 h4
 have E14:=(E2.trans E3).trans E4
 have M4:Mir H4 fa pa [] [] []:=⟨⟨0,(E3.trans E4) _ _ f2⟩,⟨0,E4 _ _ p3⟩,trivial,List.nodup_nil,(fun r hr=>by contradiction),hfp⟩
 have Hh4:Hl H4 ha [] 0:=⟨[],h4,Nat.le_refl 0,(fun h hh=>by contradiction),fun z=>by contradiction⟩
 refine w_st fun K nx=>?_
 dsimp only [Zam,Zai]
 refine ⟨show 5<12 by decide,nx _ _ ?_⟩
 have hs4:=E14 _ _ hs1
 suffices go:∀ un:Int,1≤un→un≤1000000000000000000000000000→wpSs ⟨c,n+6,true⟩ (L09.f_law.body.drop 6) (fun _ H=>AV.none = .bool true) (fun v _=>v = .bool true) (fun _ _ _=>False) (VL sp b fa pa ha un none none none none) H4 by
  refine w_st fun K nx=>?_
  dsimp only [Zay,List.set_cons_succ,List.set_cons_zero,Zan,Zai,Zau,Zao,Zae,Zah,Zad,v_0]
  refine Zjp (n:=n+5) G rfl (by decide) hs4 hl2 ⟨by decide,?_⟩
  show wcmp .Eq (.int _) (.int 1) _ _
  dsimp only [c_eq,Zag]
  split
  ·dsimp only [Zaw,Zam]
   dsimp only [tv,List.length_cons,List.length_nil,Nat.reduceAdd,List.set_cons_succ,List.set_cons_zero,Zau,Zai,Zfg,Int.reduceToNat,Int.reducePow]
   refine ⟨⟨by decide,by decide,by decide +kernel⟩,by decide,nx _ _ ?_⟩
   exact go (10 ^ 27) (by decide) (by decide)
  ·exact nx _ _ (go 1 (by decide) (by decide))
 intro un u0 u1
 refine Zz3 (n:=n+1) (rest:=L09.f_law.body.drop 7) G u0 u1 hl2 hs4 (E14 _ _ hb1) M4 Hh4 fun H5 p6 p7 B tot hs5 hb5 M5 I5 hp5 hd5 h5=>?_
 refine Zzg (n:=n+1) (rest:=L09.f_law.body.drop 8) G u0 u1 hl2 hs5 hb5 M5 I5 hp5 hd5 h5 fun H6 p6 p8 p9 Gs hs6 gk gn L6=>?_
 refine w_st fun K nx=>?_
 refine ⟨show 10<12 by decide,nx _ _ ?_⟩
 refine w_st fun K nx=>?_
 dsimp only [Zay,List.set_cons_succ,List.set_cons_zero,Zan,Zai,Zal,Zae,Zah,Zad,v_0]
 refine Zuj hs6 (Nat.le_trans hl (by decide)) ?_
 refine Eq.mpr (if_neg fun z=>by have:=of_decide_eq_true z;lia) (nx _ _ ?_)
 refine Zy1 (n:=n) (rest:=L09.f_law.body.drop 11) G gk gn u0 u1 hl hs6 L6 fun H7 p6 hs7 L7=>?_
 exact end9 G gn hl2 hs7 L7
end
end Mine
end
namespace Mine.L09
theorem law_ok {c:Cx} (G:Gd c P) {n:Nat} {H:Zaa} {sp:Addr} {ns:List Int} (h:H sp=some (.script ns)) (hl:ns.length≤63):CallOK c (n+7) true "law" [.ref sp] (fun v _=>v = .bool true) (fun _ _=>False) H:=Zvu G h hl
end Mine.L09
namespace Mine.L09
noncomputable def view:Program:=PySem.W.view PySem.Challenge.pw_uf020038_09 [53]
noncomputable def loose:List Str:=[Str.ofString "_wall",Str.ofString "__name__",Str.ofString "BookError",Str.ofString "NoName",Str.ofString "NoAmount",Str.ofString "Taken",Str.ofString "NoPurse",Str.ofString "TooLittle",Str.ofString "NoRow",Str.ofString "Twice",Str.ofString "Uneven",Str.ofString "Fallen",Str.ofString "NoDay",Str.ofString "NoPact",Str.ofString "NotOpen",Str.ofString "NoPart",Str.ofString "Already",Str.ofString "NotAside",Str.ofString "Pact",Str.ofString "are_met",Str.ofString "table_of",Str.ofString "greatest",Str.ofString "chain",Str.ofString "LETTERS",Str.ofString "MOST_SIGNS",Str.ofString "MOST_AMOUNT",Str.ofString "is_whole",Str.ofString "is_name",Str.ofString "name_of",Str.ofString "amount_of",Str.ofString "MOST",Str.ofString "Book",Str.ofString "_law_whole",Str.ofString "_law_cell_at",Str.ofString "_law_mixed",Str.ofString "_law_told",Str.ofString "_law_due",Str.ofString "_law_ended",Str.ofString "_law_due_of",Str.ofString "_law_one_same",Str.ofString "_law_crossed",Str.ofString "_law_same",Str.ofString "_law_pact_by",Str.ofString "_law_kept",Str.ofString "_law_deed",Str.ofString "_law_answer",Str.ofString "_law_questions",Str.ofString "_law_refused_by_any"]
noncomputable def hook:Hook:=Zmn P (3::(List.range 619).drop 11)
theorem left:LeftO PySem.Challenge.pw_uf020038_09 view loose (fun s=>xlAt view [] s&&recOk [] s) hook.obs hook.val 30000 true :=
 Zvt Znx (m₀:=11) (ann:=some (.ref 6)) rfl rfl (fun s=>rfl) (fun w=>by kernel_rfl) (fun w os=>by kernel_rfl)
end Mine.L09
open PySem.W.X in
set_option maxHeartbeats 0 in
theorem PySem.Challenge.cw_uf020038_09_holds : PySem.Challenge.rw_uf020038_09.Holds := by
 w_on
 refine holds_law (by decide +kernel) fun said=>?_
 refine holds_open (q:=Mine.L09.view) (loose:=Mine.L09.loose) (Xt:=fun s=>xlAt Mine.L09.view [] s&&recOk [] s) (XP:=XL Mine.L09.view []) (Yf:=Mine.L09.hook.obs) (Ya:=Mine.L09.hook.val) (YP:=Mine.L09.hook.says) (N:=30000) Mine.L09.left Mine.L09.hook.of Mine.L09.hook.keeps (fun s e=>xl_of s (Bool.and_eq_true_iff.mp e).1) XL.keeps (by rfl) (by rfl) (by rfl) (fun s e=>recFacts_of (Bool.and_eq_true_iff.mp e).2) (by rfl) (by first | assumption | decide +kernel) (by decide +kernel) ⟨rfl,rfl,rfl,rfl,rfl,by decide +kernel⟩ ?hw ?hc
 case hw=>w_witness2
 case hc =>
  intro w s₀ s₁ mg mb G Y fa o pm cd doc dV kV ho hd hcd hD hmg hg args vals as hpre hlay hrd hwl hlo
  obtain ⟨K,KX,hok⟩:=Y
  clear ho hd hcd hD
  refine Ground.open G ?_
  intro T B D TE TW
  wrow_args hpre hlay hrd hwl hlo
  clear G B D TE TW
  have hseer:=T.seer (by decide +kernel)
  refine Mine.enter (P:=Mine.L09.P) (n:=7) (by decide) KX T hseer (by rfl) rfl hmg hok (by rfl) (Mine.script_get (by assumption) (by assumption)) (by assumption) ?mineC ?mineQ
  case mineC =>
   intro c hP C PO FO
   exact Mine.L09.law_ok (n:=0) ⟨hP,⟨_,_,C⟩,PO,FO⟩ Mine.scriptH_at (by omega)
  case mineQ =>
   intro s' st ho hgn
   exact GoodW.toG ⟨.inl ⟨.bool true,.bool true,[],rfl,fun _=>rfl,.bool true,by kernel_rfl,fun _=>⟨List.nodup_nil,fun a ha=>by cases ha⟩⟩,st,ho,hgn.trans hg⟩




#print axioms PySem.Challenge.cw_uf020038_09_holds
