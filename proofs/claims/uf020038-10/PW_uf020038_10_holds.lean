import PyProof.Rows.All
import Wide.All
import OpenK.AllK
import Wide.FinOn
import KE.KDictList
import KE.KEqDict
import KE.KItemsList
import Open.Boot
import Open.FastT9
import Open.Tree
import OpenK.KCell
import OpenK.KList
import OpenK.KMore
import OpenK.KNot
import OpenK.KOwn
import OpenK.KWalk
import PyProof.ExcArgs
import PyProof.NsDelKeeps
import PyProof.WalksMore
import PyProof.WalksPairs
import PySem.Challenge.RW_uf020038_10
open PySem PySem.W PyProof.Rows PySem.Spec PySem.SeqAt PySem.Calls
set_option Elab.async false
set_option maxRecDepth 100000
set_option maxHeartbeats 4000000
set_option linter.all false
set_option bootstrap.genMatcherCode false
set_option genSizeOf false
set_option genSizeOfSpec false
open List (all_eq_true any_cons any_eq_true append_assoc append_nil cons_ne_nil contains_cons contains_iff_mem drop_length drop_zero filterMap_cons filter_append filter_cons filter_sublist find?_append find?_cons forIn_cons forIn_nil getElem?_append_left getElem?_append_right getElem?_cons_succ getElem?_eq_getElem getElem?_map getElem?_set_ne getElem_mem isEmpty_iff length_append length_cons length_drop length_filter_le length_map length_nil length_range length_set length_take lookup_cons map_append map_congr_left map_cons map_id map_map mem_append mem_append_left mem_append_right mem_cons mem_cons_of_mem mem_cons_self mem_filter mem_flatMap mem_iff_getElem mem_iff_getElem? mem_map mem_map_of_mem mem_of_getElem? mem_of_mem_take mem_range mem_singleton nil_append nodup_append nodup_cons nodup_nil not_mem_nil range_succ set_cons_succ set_cons_zero size_toArray take_add_one take_length take_sublist take_zero)
open Nat (le_add_right le_of_eq le_of_lt le_refl le_succ le_trans lt_irrefl lt_of_le_of_lt lt_or_ge lt_succ_self min_eq_left ne_of_gt ne_of_lt not_lt not_lt_zero sub_self succ_le_succ zero_add zero_le)
open Int (add_nonneg add_zero fmod_eq_emod_of_nonneg natCast_nonneg ofNat_lt sub_zero toNat_natCast toNat_of_nonneg)
open Option (getD_some isSome_iff_exists isSome_map map_eq_none_iff map_eq_some_iff map_some)
open PySem.Str (ofString)
set_option tactic.hygienic false
section
namespace Mine
@[elab_as_elim] theorem rl {α:Sort u} {a b:α} {p:α→Prop} (h:a=b) (q:p b):p a:=h▸q
theorem osi {α:Type u} {a b:α} (h:some a=some b):a=b:=Option.some.inj h
theorem gsi {α:Type u} {l:List α} {i:Nat} {a:α} (h:l[i]?=some a):∃ h:i<l.length,l[i]=a:=List.getElem?_eq_some_iff.mp h
inductive AV where
 | none
 | bool (b:Bool)
 | int (i:Int)
 | str (s:Str)
 | ref (a:Addr)
 deriving DecidableEq,Inhabited
inductive Sta where
 | opn | dn | fln
 deriving DecidableEq,Inhabited
noncomputable def Sta.str:Sta→Str
 | .opn=>ofString "open"
 | .dn=>ofString "done"
 | .fln=>ofString "fallen"
set_option genInjectivity false in
structure Pc where
 name:Str
 parts:List (Str×Int)
 gains:List (Str×Int)
 needs:List Str
 last:Int
 state:Sta
 inside:List Str
set_option genInjectivity false in
structure Bk where
 day:Int
 free:List (Str×Int)
 aside:List (Str×Int)
 pacts:List Pc
noncomputable def letters:Str:=ofString "abcdefghijklmnopqrstuvwxyz"
noncomputable def isNm (s:Str):Bool:=decide (1≤s.length∧s.length≤12)&&s.cps.toList.all fun ch=>letters.cps.toList.contains ch
noncomputable def lk {α:Type} (l:List (Str×α)) (k:Str):Option α:=(l.find? fun e=>e.1=k).map (·.2)
noncomputable def pt {α:Type} (l:List (Str×α)) (k:Str) (v:α):List (Str×α):=if (lk l k).isSome then l.map (fun e=>if e.1=k then (e.1,v) else e) else l++[(k,v)]
noncomputable def ad (l:List (Str×Int)) (k:Str) (n:Int):List (Str×Int):=pt l k ((lk l k).getD 0+n)
noncomputable def Bk.pact (B:Bk) (k:Str):Option Pc:=B.pacts.find? fun q=>q.name=k
noncomputable def Bk.setPact (B:Bk) (k:Str) (f:Pc→Pc):Bk:={ B with pacts:=B.pacts.map fun q=>if q.name=k then f q else q }
noncomputable def Bk.giveBack (B:Bk) (k:Str) (n:Int):Bk:={ B with aside:=ad B.aside k (-n),free:=ad B.free k n }
noncomputable def Bk.fellQ (B:Bk) (q:Pc):Bk :=
 (q.parts.foldl (fun B e=>if e.1∈q.inside then B.giveBack e.1 e.2 else B) B).setPact q.name fun q=>{ q with inside:=[],state:=.fln }
noncomputable def Bk.fallen (B:Bk) (k:Str):Bool:=match B.pact k with
 | some q=>q.state==.fln
 | none=>false
noncomputable def Bk.firstDragged (B:Bk):Option Pc:=B.pacts.find? fun q=>q.state==.opn&&q.needs.any B.fallen
noncomputable def Bk.dragged:Nat→Bk→List Str→Bk×List Str
 | 0,B,l=>(B,l)
 | n+1,B,l=>match B.firstDragged with
  | none=>(B,l)
  | some q=>(B.fellQ q).dragged n (l++[q.name])
inductive AObj where
 | list (xs:List AV)
 | tuple (xs:List AV)
 | dict (ep:Nat) (es:List (Str×AV))
 | inst (c:String) (es:List (String×AV))
 | range (lo hi:Int)
 | vals (d:Addr)
 | itms (d:Addr)
 | exc (c:String)
 | script (ns:List Int)
 | book (B:Bk)
noncomputable def AObj.isB:AObj→Bool
 | .book _=>true
 | _=>false
noncomputable def AObj.isS:AObj→Bool
 | .script _=>true
 | _=>false
noncomputable def AObj.isX:AObj→Bool
 | .script _=>true
 | .exc _=>true
 | _=>false
abbrev Zaa:=Addr→Option AObj
noncomputable def up (H:Zaa) (a:Addr) (o:AObj):Zaa:=fun b=>if b=a then some o else H b
abbrev VV:=List (Option AV)
inductive VR:AV→Value→Prop
 | none:VR .none .none
 | bool (b:Bool):VR (.bool b) (.bool b)
 | int (i:Int) (t:Tok):VR (.int i) (.int i t)
 | str (s:Str) (t:Tok) (h:PyData.strOk s=true):VR (.str s) (.str s t)
 | ref (a:Addr):VR (.ref a) (.ref a)
inductive VRs:List AV→List Value→Prop
 | nil:VRs [] []
 | cons {a v as vs}:VR a v→VRs as vs→VRs (a::as) (v::vs)
inductive OVR:Option AV→Option Value→Prop
 | none:OVR Option.none Option.none
 | some {a v}:VR a v→OVR (Option.some a) (Option.some v)
inductive DRs:List (Str×AV)→List (Str×Value)→Prop
 | nil:DRs [] []
 | cons {k a v as vs}:PyData.strOk k=true→VR a v→DRs as vs→DRs ((k,a)::as) ((k,v)::vs)
set_option genCtorIdx false in
set_option genInjectivity false in
inductive Tg where
 | var (i:Nat)
 | tup (is:List Nat)
set_option genInjectivity false in
inductive Pr where
 | len | list | int | range | sum | all | min | max | min3
noncomputable def Pr.str:Pr→String
 | .len=>"len" | .list=>"list" | .int=>"int" | .range=>"range" | .sum=>"sum" | .all=>"all" | .min=>"min" | .max=>"max" | .min3=>"min"
set_option genInjectivity false in
inductive BM where
 | append | index | count | clear | values | pop | upper | items | remove
noncomputable def BM.str:BM→String
 | .append=>"append" | .index=>"index" | .count=>"count" | .clear=>"clear" | .values=>"values" | .pop=>"pop" | .upper=>"upper" | .items=>"items" | .remove=>"remove"
set_option genInjectivity false in
inductive X where
 | lit (v:AV)
 | var (i:Nat)
 | glob (n:String)
 | bin (op:Operator) (a b:X)
 | neg (a:X)
 | not (a:X)
 | ao (isAnd:Bool) (xs:List X)
 | ite (c a b:X)
 | cmp (op:CmpOp) (a b:X)
 | cmp2 (op₁ op₂:CmpOp) (a b c:X)
 | sub (a i:X)
 | slice (a:X) (lo hi st:Option X)
 | attr (a:X) (n:String)
 | call (f:String) (xs:List X)
 | new (c:String) (xs:List X)
 | meth (a:X) (m:String) (xs:List X)
 | bm (a:X) (m:BM) (xs:List X)
 | prim (f:Pr) (xs:List X)
 | isinst (a:X) (c:String)
 | list (xs:List X)
 | tuple (xs:List X)
 | dict (ks vs:List X)
 | comp (e:X) (k:Nat) (tup:Bool) (it:X) (c:Option X)
set_option genCtorIdx false in
set_option genInjectivity false in
inductive T where
 | var (i:Nat)
 | tup (is:List Nat)
 | sub (a i:X)
 | attr (a:X) (n:String)
set_option genCtorIdx false in
set_option genInjectivity false in
mutual
inductive S where
 | assign (t:T) (e:X)
 | expr (e:X)
 | ret (e:X)
 | ite (c:X) (a b:List S)
 | while (c:X) (body:List S)
 | for (t:Tg) (it:X) (body:List S)
 | raise (c:String) (msg:Str)
 | try (body:List S) (hs:List Hd)
 | pass
inductive Hd where
 | mk (c:String) (nm:Option Nat) (body:List S)
end
set_option genInjectivity false in
structure Fn where
 npar:Nat
 slots:List String
 body:List S
set_option genInjectivity false in
structure Pg where
 fns:List (String×Fn)
 gfns:List String
 consts:List (String×AV)
 excs:List (String×List String)
 classes:List String
 meths:List (String×String)
 attrs:List (String×String)
 prims:List String
inductive Res where
 | ns (m:Str→Option Value)
 | cell (v:Option Value)
 | obj (o:Obj)
abbrev RR:=Addr→Option Res
noncomputable def rup (R:RR) (a:Addr) (r:Res):RR:=fun b=>if b=a then some r else R b
def ResAt (h:Heap) (b:Addr):Res→Prop
 | .ns m=>h.Ns b m
 | .cell v=>∃ o,h.get? b=some o∧o.data = .cell v
 | .obj o=>h.get? b=some o
set_option genInjectivity false in
structure Cx where
 prog:Program
 w:World
 K:Frag
 base:Heap
 P:Pg
 fa:String→Addr
 ca:String→Addr
def Zck (es:List (String×AV)) (ents:List DictEntry):Prop :=
 match es,ents with
 | [],[]=>True
 | (n,a)::r,e::q=>(∃ t,e.key = .str (ofString n) t)∧VR a e.val∧Zck r q
 | _,_=>False
def RgOk (a b:Int):Prop:=-(2 ^ 62)<a∧a<2 ^ 62∧-(2 ^ 62)<b∧b<2 ^ 62
def ORep (c:Cx) (h:Heap) (D:Addr→Addr) (a:Addr):AObj→Prop
 | .list xs=>∃ vs n,h.get? a=some (listOf (vs:List Value).toArray n)∧VRs xs vs
 | .tuple xs=>∃ vs n,h.get? a=some { cls:=.type "tuple",data:=.seq (vs:List Value).toArray n }∧VRs xs vs
 | .dict ep es=>∃ kvs,h.DictAt (strKind c.prog c.w) a kvs ep∧DRs es kvs
 | .inst cl es=>h.get? a=some (instObj (c.ca cl) (D a))∧∃ ents n,h.get? (D a)=some (dictOf ents n)∧Zck es ents∧(es.map (·.1)).Nodup
 | .range lo hi=>RgOk lo hi∧∃ t u v,IsRange h a lo hi 1 t u v
 | .vals d=>h.get? a=some { cls:=.type "dict_values",data:=.fields #[.ref d] }
 | .itms d=>h.get? a=some { cls:=.type "dict_items",data:=.fields #[.ref d] }
 | .exc cl=>∃ o,h.get? a=some o∧o.cls = .ref (c.ca cl)∧∃ vs,o.data = .fields vs
 | .script ns=>∃ vs n,h.get? a=some (listOf (vs:List Value).toArray n)∧VRs (ns.map AV.int) vs
 | .book _=>False
def Abv (c:Cx) (a:Addr) (o:AObj):Prop:=(o.isS=false→c.base.get? a=none)∧(o.isX=false→c.base.objs.size≤a)
structure HR (c:Cx) (R:RR) (D:Addr→Addr) (H:Zaa) (h:Heap):Prop where
 rep:∀ a o,H a=some o→ORep c h D a o
 above:∀ a o,H a=some o→Abv c a o∧R a=none
 dict:∀ a cl es,H a=some (.inst cl es)→c.base.objs.size≤D a∧R (D a)=none∧H (D a)=none
 inj:∀ a b cl es cl' es',H a=some (.inst cl es)→H b=some (.inst cl' es')→D a=D b→a=b
structure St1 (c:Cx) (R:RR) (H:Zaa) (h:Heap):Prop where
 stays:c.base.StaysIn h
 size:c.base.objs.size≤h.objs.size
 res:∀ b r,R b=some r→c.base.objs.size≤b∧ResAt h b r
 rep:∃ D,HR c R D H h
inductive Role where
 | self | free | aside | pacts | pact (i:Nat) | inside (i:Nat) | data
noncomputable def dI (l:List (Str×Int)):List (Str×AV):=l.map fun e=>(e.1,.int e.2)
def pairsAV (o:Addr→Option Role) (H:Zaa):List Addr→List (Str×Int)→Prop
 | [],[]=>True
 | t::ts,e::l=>o t=some .data∧H t=some (.tuple [.str e.1,.int e.2])∧pairsAV o H ts l
 | _,_=>False
def PairsAt (o:Addr→Option Role) (H:Zaa) (p:Addr) (l:List (Str×Int)):Prop:=o p=some .data∧∃ ts:List Addr,H p=some (.list (ts.map .ref))∧pairsAV o H ts l
structure IsPact (o:Addr→Option Role) (H:Zaa) (i:Nat) (a:Addr) (q:Pc):Prop where
 own:o a=some (.pact i)
 at_:∃ pa ga ne ins ep,H a=some (.inst "Pact" [("name",.str q.name),("parts",.ref pa),("gains",.ref ga),("needs",.ref ne),("last",.int q.last),("state",.str q.state.str),("inside",.ref ins)]) ∧
  PairsAt o H pa q.parts∧PairsAt o H ga q.gains∧o ne=some .data∧H ne=some (.list (q.needs.map .str))∧o ins=some (.inside i)∧H ins=some (.dict ep (q.inside.map fun k=>(k,.bool true)))
def pactsAt (o:Addr→Option Role) (H:Zaa):Nat→List Addr→List Pc→Prop
 | _,[],[]=>True
 | i,a::as,q::qs=>IsPact o H i a q∧pactsAt o H (i+1) as qs
 | _,_,_=>False
noncomputable def dP:List Pc→List Addr→List (Str×AV)
 | q::qs,a::as=>(q.name,.ref a)::dP qs as
 | _,_=>[]
structure IsBook (o:Addr→Option Role) (H:Zaa) (b f s p:Addr) (as:List Addr) (B:Bk):Prop where
 ob:o b=some .self
 of:o f=some .free
 os:o s=some .aside
 op:o p=some .pacts
 hb:H b=some (.inst "Book" [("day",.int B.day),("free",.ref f),("aside",.ref s),("pacts",.ref p)])
 hf:∃ ep,H f=some (.dict ep (dI B.free))
 hs:∃ ep,H s=some (.dict ep (dI B.aside))
 hp:∃ ep,H p=some (.dict ep (dP B.pacts as))
 ps:pactsAt o H 0 as B.pacts
noncomputable def ownB (o:Addr→Option (Addr×Role)) (b:Addr):Addr→Option Role:=fun a=>match o a with
 | some (c,r)=>if c=b then some r else none
 | none=>none
def Real (H H₁:Zaa):Prop:=(∀ a x,H₁ a=some x→x.isB=false)∧∃ o:Addr→Option (Addr×Role),∀ a x,H a=some x→(x.isB=false∧H₁ a=some x∧o a=none)∨∃ B f s p as,x = .book B∧IsBook (ownB o a) H₁ a f s p as B
def St (c:Cx) (R:RR) (H:Zaa) (h:Heap):Prop:=∃ H₁,St1 c R H₁ h∧Real H H₁
def Sm (s s':Shared):Prop:=∃ h tk,s' = { s with heap:=h,toks:=tk }
structure FEnv (R:RR) (e:Env):Prop where
 kind:e.scope.kind = .function
 frame:e.frame=some e.locals
 gen:e.scope.isGenerator=false
 co:e.scope.isCoroutine=false
 blt:e.builtins=builtinsNs
 glob:e.globals=mainGlobals
 ns:∃ m,R e.locals=some (.ns m)
def Stk (R:RR) (stk:List Env):Prop:=∀ e∈stk,FEnv R e
structure AOk (k n:Nat) (md:Bool) (A:Around) (stk:List Env):Prop where
 frames:A.frames=some stk
 depth:A.depth+110+k+8*n<recursionLimit
 units:A.units+100+10*k+60*n<cLine
 hand:md=true→A.handled=none
inductive ExcAt (c:Cx) (R:RR) (H:Zaa) (h:Heap) (e:Addr) (cls:Value):Value→Prop
 | fresh {t:Addr}:h.get? e=some { cls:=cls,data:=.fields #[.ref t,.none,.none,.none,.bool false,.none] }→ExcAt c R H h e cls .ellipsis
 | traced {oe:Obj} {vs:Array Value} {T:Addr} {oT:Obj} {ts:Array Value} {fl a0:Value}:h.get? e=some oe→oe.cls=cls→oe.data = .fields vs→vs[0]? = some a0→vs[1]? = some (.ref T)→T≠e →
   R T=none→H T=none→c.base.get? T=none→h.get? T=some oT→oT.data = .fields ts→ts[3]? = some fl→fl≠.ellipsis→ExcAt c R H h e cls fl
structure ExcSt1 (c:Cx) (R:RR) (H:Zaa) (e:Addr) (cl:String) (fl:Value) (h:Heap):Prop where
 st:St1 c R H h
 re:R e=none
 he:H e=none
 be:c.base.get? e=none
 ob:ExcAt c R H h e (.ref (c.ca cl)) fl
 kn:(c.P.excs.lookup cl).isSome=true
def ExcSt (c:Cx) (R:RR) (H:Zaa) (e:Addr) (cl:String) (fl:Value) (h:Heap):Prop:=∃ H₁,ExcSt1 c R H₁ e cl fl h∧Real H H₁
def CallOK (c:Cx) (n:Nat) (md:Bool) (f:String) (args:List AV) (Q:AV→Zaa→Prop) (E:String→Zaa→Prop) (H:Zaa):Prop :=
 ∀ (A:Around) (stk:List Env) (R:RR) (s:Shared) (vals:List Value) (Rs:Result→Shared→Prop),
  AOk 0 n md A stk→Stk R stk→St c R H s.heap→VRs args vals →
  (∀ av v s' H',VR av v→St c R H' s'.heap→Sm s s'→Q av H'→Rs (.ok (.ret v)) s') →
  (∀ e cl s' H',ExcSt c R H' e cl .none s'.heap→Sm s s'→E cl H'→Rs (.error (.ref e)) s') →
  codeAny (model c.prog c.w) A (.call (.ref (c.fa f)) ⟨vals,[]⟩) Rs s
mutual
inductive RD (H:Zaa):AV→PyData→Prop
 | none:RD H .none .none
 | bool (b:Bool):RD H (.bool b) (.bool b)
 | int (i:Int):RD H (.int i) (.int i)
 | str (s:Str):RD H (.str s) (.str s)
 | list {a xs ds}:H a=some (.list xs)→RDs H xs ds→RD H (.ref a) (.list ds)
 | tuple {a xs ds}:H a=some (.tuple xs)→RDs H xs ds→RD H (.ref a) (.tuple ds)
inductive RDs (H:Zaa):List AV→List PyData→Prop
 | nil:RDs H [] []
 | cons {a d as ds}:RD H a d→RDs H as ds→RDs H (a::as) (d::ds)
end
mutual
noncomputable def Zmh:PyData→Bool
 | .none | .bool _ | .int _ | .str _=>true
 | .list xs | .tuple xs=>Zh8 xs
 | .dict _=>false
noncomputable def Zh8:List PyData→Bool
 | []=>true
 | x::xs=>Zmh x&&Zh8 xs
end
def okD (d:PyData):Prop:=Zmh d=true∧d.depth≤64
noncomputable def Zf5 (n:Nat) (i:Int):Option Nat :=
 if 0≤i then (if i<n then some i.toNat else none) else if -(n:Int)≤i then some (i+n).toNat else none
noncomputable def Zb8 (es:List (Str×AV)) (k:Str):Option AV:=(es.find? fun e=>e.1=k).map (·.2)
noncomputable def putS (es:List (Str×AV)) (k:Str) (v:AV):List (Str×AV) :=
 if (Zb8 es k).isSome then es.map (fun e=>if e.1=k then (e.1,v) else e) else es++[(k,v)]
noncomputable def Zed (es:List (String×AV)) (k:String):Option AV:=(es.find? fun e=>e.1=k).map (·.2)
noncomputable def putA (es:List (String×AV)) (k:String) (v:AV):List (String×AV) :=
 if (Zed es k).isSome then es.map (fun e=>if e.1=k then (e.1,v) else e) else es++[(k,v)]
def Zbb (v:AV) (H:Zaa) (Q:Bool→Prop):Prop :=
 match v with
 | .none=>Q false
 | .bool b=>Q b
 | .int i=>Q (i != 0)
 | .str s=>s.length<2 ^ 62∧Q (s.length != 0)
 | .ref a=>match H a with
  | some (.list xs)=>xs.length<2 ^ 62∧Q (!xs.isEmpty)
  | some (.tuple xs)=>xs.length<2 ^ 62∧Q (!xs.isEmpty)
  | _=>False
def wii (a b:AV) (P:Int→Int→Prop):Prop:=match a,b with
 | .int x,.int y=>P x y
 | _,_=>False
def wbin (op:Operator) (a b:AV) (Q:AV→Zaa→Prop) (H:Zaa):Prop :=
 match op with
 | .Add=>(match a,b with
  | .int x,.int y=>Q (.int (x+y)) H
  | .str x,.str y=>x.length+y.length≤sizeLine∧Q (.str (x++y)) H
  | .ref x,.ref y=>(match H x,H y with
   | some (.list xs),some (.list ys)=>xs.length+ys.length≤sizeLine∧∀ z,H z=none→Q (.ref z) (up H z (.list (xs++ys)))
   | _,_=>False)
  | _,_=>False)
 | .Sub=>wii a b fun x y=>Q (.int (x - y)) H
 | .Mult=>wii a b fun x y=>IntMulOk x y∧Q (.int (x*y)) H
 | .FloorDiv=>wii a b fun x y=>y≠0∧Q (.int (x.fdiv y)) H
 | .Mod=>wii a b fun x y=>y≠0∧Q (.int (x.fmod y)) H
 | .Pow=>wii a b fun x y=>(2≤x∧1≤y∧Builtin.Int.intTooBig (((Builtin.Int.intBits x:Nat):Int)*y)=false)∧Q (.int (x ^ y.toNat)) H
 | _=>False
noncomputable def nt (n b:Bool):Bool:=match n with
 | true=>!b
 | false=>b
theorem nt_eq {n b:Bool}:(b != n)=nt n b:=by cases n<;>cases b<;>rfl
def weq (ne:Bool) (a b:AV) (Q:AV→Zaa→Prop) (H:Zaa):Prop :=
 match a,b with
 | .int x,.int y=>Q (.bool (nt ne (x==y))) H
 | .str x,.str y=>Q (.bool (nt ne (x==y))) H
 | a,b=>∃ da db,RD H a da∧RD H b db∧okD da∧okD db∧Q (.bool (nt ne (PyData.eqv da db))) H
def win (no:Bool) (x cc:AV) (Q:AV→Zaa→Prop) (H:Zaa):Prop :=
 match cc with
 | .ref a=>match H a with
  | some (.list ys)=>∃ d ds,RD H x d∧RDs H ys ds∧okD d∧Zh8 ds=true∧Q (.bool (nt no (ds.any fun y=>PyData.eqv y d))) H
  | some (.dict _ es)=>match x with
   | .str k=>Q (.bool (nt no (Zb8 es k).isSome)) H
   | _=>False
  | _=>False
 | .str s=>match x with
  | .str k=>∃ ch,k=⟨#[ch]⟩∧Q (.bool (nt no (s.cps.toList.contains ch))) H
  | _=>False
 | _=>False
def wcmp (op:CmpOp) (a b:AV) (Q:AV→Zaa→Prop) (H:Zaa):Prop :=
 match op with
 | .Eq=>weq false a b Q H
 | .NotEq=>weq true a b Q H
 | .In=>win false a b Q H
 | .NotIn=>win true a b Q H
 | .Is=>match b with
  | .none=>Q (.bool (a==.none)) H
  | .bool c=>Q (.bool (a==.bool c)) H
  | _=>False
 | .IsNot=>match b with
  | .none=>Q (.bool (a != .none)) H
  | .bool c=>Q (.bool (a != .bool c)) H
  | _=>False
 | op=>match a,b with
  | .int x,.int y=>match op with
   | .Lt=>Q (.bool (decide (x<y))) H
   | .LtE=>Q (.bool (decide (x≤y))) H
   | .Gt=>Q (.bool (decide (y<x))) H
   | .GtE=>Q (.bool (decide (y≤x))) H
   | _=>False
  | _,_=>False
def wsub (a i:AV) (Q:AV→Zaa→Prop) (H:Zaa):Prop :=
 match a,i with
 | .ref a,.int i=>match H a with
  | some (.list xs)=>∃ j v,Zf5 xs.length i=some j∧i<2 ^ 63∧-(2 ^ 63)≤i∧xs[j]? = some v∧Q v H
  | some (.tuple xs)=>∃ j v,Zf5 xs.length i=some j∧i<2 ^ 63∧-(2 ^ 63)≤i∧xs[j]? = some v∧Q v H
  | some (.script ns)=>0≤i∧i<2 ^ 63∧∃ n,ns[i.toNat]? = some n∧Q (.int n) H
  | _=>False
 | .ref a,.str k=>match H a with
  | some (.dict _ es)=>∃ v,Zb8 es k=some v∧Q v H
  | _=>False
 | .str s,.int i=>0≤i∧i<2 ^ 63∧∃ ch,s.cps[i.toNat]? = some ch∧Q (.str ⟨#[ch]⟩) H
 | _,_=>False
noncomputable def Zb1 {α:Type} (xs:List α) (lo hi st:Option Int):List α :=
 (sliceRange (sliceBounds lo hi st xs.length).1 (sliceBounds lo hi st xs.length).2.1 (sliceBounds lo hi st xs.length).2.2).filterMap (xs[·]?)
noncomputable def Zii:Option AV→Option (Option Int)
 | none=>some none
 | some (.int i)=>some (some i)
 | _=>none
def Zg9 (a:AV) (lo hi st:Option AV) (Q:AV→Zaa→Prop) (H:Zaa):Prop :=
 match a with
 | .ref a=>(match H a with
  | some (.list xs)=>∃ l u t,Zii lo=some l∧Zii hi=some u∧Zii st=some t∧t≠some 0∧xs.length≤sizeLine∧∀ z,H z=none→Q (.ref z) (up H z (.list (Zb1 xs l u t)))
  | _=>False)
 | .str s=>(match lo,hi,st with
  | some (.int l),none,none=>0≤l∧l≤s.length∧s.length≤sizeLine∧Q (.str ⟨(s.cps.toList.drop l.toNat).toArray⟩) H
  | none,some (.int u),none=>0≤u∧u≤s.length∧s.length≤sizeLine∧Q (.str ⟨(s.cps.toList.take u.toNat).toArray⟩) H
  | _,_,_=>False)
 | _=>False
noncomputable def Ze0 (H:Zaa) (v:AV):Option String :=
 match v with
 | .none=>some "NoneType"
 | .bool _=>some "bool"
 | .int _=>some "int"
 | .str _=>some "str"
 | .ref a=>match H a with
  | some (.list _)=>some "list"
  | some (.tuple _)=>some "tuple"
  | some (.dict ..)=>some "dict"
  | _=>none
noncomputable def Zcc (P:Pg) (H:Zaa) (v:AV) (ty:String):Option Bool :=
 if ty = "int"∨ty = "bool"∨ty = "str"∨ty = "list" then (Ze0 H v).map fun k=>k==ty||(k=="bool"&&ty=="int")
 else none
def onV1 (vs:List AV) (k:AV→Prop):Prop:=match vs with
 | []=>False
 | v::r=>match r with
  | []=>k v
  | _::_=>False
def atL (o:AV) (H:Zaa) (k:Addr→List AV→Prop):Prop:=match o with
 | .ref p=>(match H p with
  | some (.list xs)=>k p xs
  | _=>False)
 | _=>False
def atD (o:AV) (H:Zaa) (k:Addr→List (Str×AV)→Prop):Prop:=match o with
 | .ref p=>(match H p with
  | some (.dict _ es)=>k p es
  | _=>False)
 | _=>False
def wlen (v:AV) (Q:AV→Zaa→Prop) (H:Zaa):Prop:=match v with
 | .str s=>s.length<2 ^ 62∧Q (.int s.length) H
 | .ref a=>(match H a with
   | some (.list xs)=>xs.length<2 ^ 62∧Q (.int xs.length) H
   | some (.tuple xs)=>xs.length<2 ^ 62∧Q (.int xs.length) H
   | some (.dict _ es)=>es.length<2 ^ 62∧Q (.int es.length) H
   | some (.script ns)=>ns.length<2 ^ 62∧Q (.int ns.length) H
   | _=>False)
 | _=>False
def Zfp:Zaa→List (Str×AV)→(List Addr→Zaa→Prop)→Prop
 | H,[],k=>k [] H
 | H,e::es,k=>∀ t,H t=none→Zfp (up H t (.tuple [.str e.1,e.2])) es fun ts H'=>k (t::ts) H'
def Zxt (md:Bool) (v:AV) (Q:AV→Zaa→Prop) (H:Zaa):Prop:=match v with
 | .ref a=>(match H a with
   | some (.list xs)=>xs.length≤sizeLine∧∀ z,H z=none→Q (.ref z) (up H z (.list xs))
   | some (.tuple xs)=>xs.length≤sizeLine∧∀ z,H z=none→Q (.ref z) (up H z (.list xs))
   | some (.dict _ es)=>md=true∧es.length≤sizeLine∧∀ z,H z=none→Q (.ref z) (up H z (.list (es.map fun e=>.str e.1)))
   | some (.vals d)=>(match H d with
    | some (.dict _ es)=>md=true∧es.length≤sizeLine∧∀ z,H z=none→Q (.ref z) (up H z (.list (es.map (·.2))))
    | _=>False)
   | some (.itms d)=>(match H d with
    | some (.dict _ es)=>md=true∧es.length≤sizeLine∧Zfp H es fun ts H'=>∀ z,H' z=none→Q (.ref z) (up H' z (.list (ts.map .ref)))
    | _=>False)
   | _=>False)
 | _=>False
def wsum (v:AV) (Q:AV→Zaa→Prop) (H:Zaa):Prop:=match v with
 | .ref a=>(match H a with
   | some (.list xs)=>∃ ns:List Int,xs=ns.map .int∧Q (.int ns.sum) H
   | some (.vals d)=>(match H d with
    | some (.dict _ es)=>∃ ns:List Int,es.map (·.2)=ns.map .int∧Q (.int ns.sum) H
    | _=>False)
   | _=>False)
 | _=>False
def on1i (a:AV) (k:Int→Prop):Prop:=match a with
 | .int x=>k x
 | _=>False
def wi2 (vs:List AV) (k:Int→Int→Prop):Prop:=match vs with
 | []=>False
 | a::r=>onV1 r fun b=>wii a b k
def Zc1 (md:Bool) (f:Pr) (vs:List AV) (Q:AV→Zaa→Prop) (H:Zaa):Prop :=
 match f with
 | .len=>onV1 vs fun v=>wlen v Q H
 | .list=>onV1 vs fun v=>Zxt md v Q H
 | .int=>onV1 vs fun v=>match v with
  | .bool b=>Q (.int (if b then 1 else 0)) H
  | _=>False
 | .range=>match vs with
  | []=>False
  | a::r=>match r with
   | []=>on1i a fun b=>(-(2 ^ 62)<b∧b<2 ^ 62)∧∀ z,H z=none→Q (.ref z) (up H z (.range 0 b))
   | _::_=>onV1 r fun b=>wii a b fun a b=>(-(2 ^ 62)<a∧a<2 ^ 62∧-(2 ^ 62)<b∧b<2 ^ 62)∧∀ z,H z=none→Q (.ref z) (up H z (.range a b))
 | .sum=>onV1 vs fun v=>md=true∧wsum v Q H
 | .all=>onV1 vs fun v=>md=true∧atL v H fun _ xs=>∃ bs:List Bool,xs=bs.map .bool∧Q (.bool (bs.all id)) H
 | .min=>wi2 vs fun a b=>md=true∧Q (.int (if b<a then b else a)) H
 | _=>False
noncomputable def bookAttrs:List String:=["day","free","aside","pacts"]
def wbm (o:AV) (m:BM) (vs:List AV) (Q:AV→Zaa→Prop) (H:Zaa):Prop :=
 match m with
 | .append=>onV1 vs fun v=>atL o H fun p xs=>xs.length≤sizeLine∧Q .none (up H p (.list (xs++[v])))
 | .values=>match vs with
  | []=>atD o H fun p _=>∀ z,H z=none→Q (.ref z) (up H z (.vals p))
  | _::_=>False
 | .items=>match vs with
  | []=>atD o H fun p _=>∀ z,H z=none→Q (.ref z) (up H z (.itms p))
  | _::_=>False
 | _=>False
noncomputable def Zal (H:Zaa):AV→Option (List AV)
 | .ref a=>match H a with
  | some (.list xs)=>some xs
  | some (.tuple xs)=>some xs
  | some (.range lo hi)=>some ((List.range (hi - lo).toNat).map fun (k:Nat)=>AV.int (lo+k))
  | some (.dict _ es)=>some (es.map fun e=>AV.str e.1)
  | _=>none
 | .str s=>some (s.cps.toList.map fun ch=>AV.str ⟨#[ch]⟩)
 | _=>none
def Zdu (H H':Zaa):AV→Prop
 | .ref a=>H' a=H a
 | _=>True
def WFor (QN:VV→Zaa→Prop) (stp:AV→(VV→Zaa→Prop)→VV→Zaa→Prop) (v:AV) (V:VV) (H:Zaa):Prop :=
 ∃ xs,Zal H v=some xs∧∃ I:Nat→VV→Zaa→Prop,I 0 V H ∧
  ∀ k V' H',I k V' H'→Zdu H H' v∧(k=xs.length→QN V' H')∧∀ x,xs[k]? = some x→stp x (I (k+1)) V' H'
def Zsf (QN:VV→Zaa→Prop) (tst:(Bool→Zaa→Prop)→VV→Zaa→Prop) (bd:(VV→Zaa→Prop)→VV→Zaa→Prop) (V:VV) (H:Zaa):Prop :=
 ∃ I:Nat→VV→Zaa→Prop,(∃ n,I n V H)∧∀ n V' H',I n V' H'→tst (fun b H''=>if b then bd (fun V2 H₂=>∃ m,m<n∧I m V2 H₂) V' H'' else QN V' H'') V' H'
def Zj3 (Q:AV→Zaa→Prop) (stp:AV→(Option AV→Zaa→Prop)→Zaa→Prop) (v:AV) (H:Zaa):Prop :=
 ∃ xs,Zal H v=some xs∧xs.length≤sizeLine∧∃ I:Nat→List AV→Zaa→Prop,I 0 [] H ∧
  ∀ k acc H',I k acc H'→Zdu H H' v∧(k=xs.length→∀ a,H' a=none→Q (.ref a) (up H' a (.list acc))) ∧
   ∀ x,xs[k]? = some x→stp x (fun r H''=>I (k+1) (acc++r.toList) H'') H'
def Zb7 (k:Nat) (x:AV) (H:Zaa) (Q:List AV→Prop):Prop :=
 match x with
 | .ref a=>match H a with
  | some (.tuple xs)=>xs.length=k∧Q xs
  | some (.list xs)=>xs.length=k∧Q xs
  | _=>False
 | _=>False
noncomputable def Ziq (V:VV):List Nat→List AV→VV
 | i::is,x::xs=>Ziq (V.set i (some x)) is xs
 | _,_=>V
def wtg (t:Tg) (x:AV) (V:VV) (H:Zaa) (Q:VV→Prop):Prop :=
 match t with
 | .var i=>i<V.length∧Q (V.set i (some x))
 | .tup is=>Zb7 is.length x H fun xs=>Q (Ziq V is xs)
def bmOn (m:BM) (x:AV) (H:Zaa):Prop :=
 match x with
 | .str _=>m = .upper
 | .ref p=>match H p with
  | some (.list _)=>m = .append∨m = .clear∨m = .index∨m = .count∨m = .remove
  | some (.dict _ _)=>m = .values∨m = .pop∨m = .items
  | _=>False
 | _=>False
set_option genInjectivity false in
structure Gx where
 c:Cx
 n:Nat
 md:Bool
def Zso (P:Pg) (n:String) (x:AV) (Q:AV→Zaa→Prop) (H:Zaa):Prop:=match x with
 | .ref p=>(match H p with
  | some (.inst cl es)=>P.attrs.contains (cl,n)=true∧(match Zed es n with | some v=>Q v H | none=>False)
  | some (.book B)=>n = "day"∧P.attrs.contains ("Book","day")=true∧Q (.int B.day) H
  | _=>False)
 | _=>False
def Zsn (P:Pg) (m:String) (x:AV) (K:String→Addr→Zaa→Prop) (H:Zaa):Prop:=match x with
 | .ref p=>(match H p with
  | some (.inst cl es)=>P.meths.contains (cl,m)=true∧Zed es m=none∧K (cl++"."++m) p H
  | some (.book _)=>P.meths.contains ("Book",m)=true∧bookAttrs.contains m=false∧K ("Book."++m) p H
  | _=>False)
 | _=>False
def wisi (P:Pg) (ty:String) (x:AV) (Q:AV→Zaa→Prop) (H:Zaa):Prop:=match Zcc P H x ty with
 | some b=>Q (.bool b) H
 | none=>False
def Z0e (o j x:AV) (Q:Zaa→Prop) (H:Zaa):Prop:=match o,j with
 | .ref p,.str k=>(match H p with
  | some (.dict _ es)=>es.length≤sizeLine∧∀ ep,Q (up H p (.dict ep (putS es k x)))
  | _=>False)
 | .ref p,.int j=>(match H p with
  | some (.list xs)=>0≤j∧j<xs.length∧xs.length<2 ^ 62∧Q (up H p (.list (xs.set j.toNat x)))
  | _=>False)
 | _,_=>False
def Z0f (P:Pg) (n:String) (o x:AV) (Q:Zaa→Prop) (H:Zaa):Prop:=match o with
 | .ref p=>(match H p with
  | some (.inst cl es)=>P.attrs.contains (cl,n)=true∧es.length≤100∧Q (up H p (.inst cl (putA es n x)))
  | _=>False)
 | _=>False
mutual
def wpX (g:Gx):X→VV→(AV→Zaa→Prop)→(String→Zaa→Prop)→Zaa→Prop
 | .lit v,_,Q,_,H=>Q v H
 | .var i,V,Q,_,H=>match V[i]? with
  | some (some v)=>Q v H
  | _=>False
 | .glob n,_,Q,_,H=>match g.c.P.consts.lookup n with
  | some v=>Q v H
  | none=>False
 | .bin op a b,V,Q,E,H=>wpX g a V (fun x H=>wpX g b V (fun y H=>wbin op x y Q H) E H) E H
 | .neg a,V,Q,E,H=>wpX g a V (fun x H=>match x with | .int i=>Q (.int (-i)) H | _=>False) E H
 | .not a,V,Q,E,H=>wpX g a V (fun x H=>Zbb x H fun b=>Q (.bool (!b)) H) E H
 | .ao isAnd xs,V,Q,E,H=>wpAO g isAnd xs V Q E H
 | .ite c a b,V,Q,E,H=>wpX g c V (fun x H=>Zbb x H fun t=>if t then wpX g a V Q E H else wpX g b V Q E H) E H
 | .cmp op a b,V,Q,E,H=>wpX g a V (fun x H=>wpX g b V (fun y H=>wcmp op x y Q H) E H) E H
 | .cmp2 op₁ op₂ a b d,V,Q,E,H=>wpX g a V (fun x H=>wpX g b V (fun y H=>wcmp op₁ x y (fun r H=>Zbb r H fun t =>
   if t then wpX g d V (fun z H=>wcmp op₂ y z Q H) E H else Q r H) H) E H) E H
 | .sub a i,V,Q,E,H=>wpX g a V (fun x H=>wpX g i V (fun y H=>wsub x y Q H) E H) E H
 | .slice a lo hi st,V,Q,E,H=>wpX g a V (fun x H=>wpO g lo V (fun l H=>wpO g hi V (fun u H=>wpO g st V (fun t H=>Zg9 x l u t Q H) E H) E H) E H) E H
 | .attr a n,V,Q,E,H=>wpX g a V (fun x H=>Zso g.c.P n x Q H) E H
 | .call f xs,V,Q,E,H=>wpXs g xs V (fun vs H=>CallOK g.c g.n g.md f vs Q E H) E H
 | .new cl xs,V,Q,E,H=>wpXs g xs V (fun vs H=>∀ a,H a=none→CallOK g.c g.n g.md (cl++".__init__") (.ref a::vs) (fun r H=>r = .none∧Q (.ref a) H) E (up H a (.inst cl []))) E H
 | .meth a m xs,V,Q,E,H=>wpX g a V (fun x H=>Zsn g.c.P m x (fun f p H=>wpXs g xs V (fun vs H=>CallOK g.c g.n g.md f (.ref p::vs) Q E H) E H) H) E H
 | .bm a m xs,V,Q,E,H=>wpX g a V (fun x H=>bmOn m x H∧wpXs g xs V (fun vs H=>wbm x m vs Q H) E H) E H
 | .prim f xs,V,Q,E,H=>wpXs g xs V (fun vs H=>Zc1 g.md f vs Q H) E H
 | .isinst a ty,V,Q,E,H=>wpX g a V (fun x H=>wisi g.c.P ty x Q H) E H
 | .list xs,V,Q,E,H=>wpXs g xs V (fun vs H=>∀ a,H a=none→Q (.ref a) (up H a (.list vs))) E H
 | .tuple xs,V,Q,E,H=>wpXs g xs V (fun vs H=>∀ a,H a=none→Q (.ref a) (up H a (.tuple vs))) E H
 | .dict ks vs,V,Q,E,H=>match ks,vs with
  | [],[]=>∀ a,H a=none→Q (.ref a) (up H a (.dict 0 []))
  | [k],[v]=>wpX g k V (fun k H=>wpX g v V (fun v H=>match k with | .str k=>∀ a ep,H a=none→Q (.ref a) (up H a (.dict ep [(k,v)])) | _=>False) E H) E H
  | _,_=>False
 | .comp e k tup it c,V,Q,E,H=>g.md=true∧wpX g it V (fun v H=>Zj3 Q (fun x nx H =>
   if tup then Zb7 k x H fun xs=>wpC g c (V++xs.map some) (fun b H=>if b then wpX g e (V++xs.map some) (fun y H=>nx (some y) H) (fun _ _=>False) H else nx none H) (fun _ _=>False) H
   else wpC g c (V++[some x]) (fun b H=>if b then wpX g e (V++[some x]) (fun y H=>nx (some y) H) (fun _ _=>False) H else nx none H) (fun _ _=>False) H) v H) E H
def wpXs (g:Gx):List X→VV→(List AV→Zaa→Prop)→(String→Zaa→Prop)→Zaa→Prop
 | [],_,Q,_,H=>Q [] H
 | x::r,V,Q,E,H=>wpX g x V (fun v H=>wpXs g r V (fun vs H=>Q (v::vs) H) E H) E H
def wpAO (g:Gx) (isAnd:Bool):List X→VV→(AV→Zaa→Prop)→(String→Zaa→Prop)→Zaa→Prop
 | [],_,_,_,_=>False
 | x::r,V,Q,E,H=>wpX g x V (fun v H=>match r with
   | []=>Q v H
   | _::_=>Zbb v H fun b=>if b=isAnd then wpAO g isAnd r V Q E H else Q v H) E H
def wpO (g:Gx):Option X→VV→(Option AV→Zaa→Prop)→(String→Zaa→Prop)→Zaa→Prop
 | none,_,Q,_,H=>Q none H
 | some x,V,Q,E,H=>wpX g x V (fun v H=>Q (some v) H) E H
def wpC (g:Gx):Option X→VV→(Bool→Zaa→Prop)→(String→Zaa→Prop)→Zaa→Prop
 | none,_,Q,_,H=>Q true H
 | some x,V,Q,E,H=>wpX g x V (fun v H=>Zbb v H fun b=>Q b H) E H
end
def wpT (g:Gx) (t:T) (x:AV) (V:VV) (Q:VV→Zaa→Prop) (E:String→Zaa→Prop) (H:Zaa):Prop :=
 match t with
 | .var i=>i<V.length∧Q (V.set i (some x)) H
 | .tup is=>g.md=true∧Zb7 is.length x H fun xs=>Q (Ziq V is xs) H
 | .sub a i=>wpX g a V (fun o H=>wpX g i V (fun j H=>Z0e o j x (Q V) H) E H) E H
 | .attr a n=>wpX g a V (fun o H=>Z0f g.c.P n o x (Q V) H) E H
noncomputable def Zla (P:Pg) (cl c:String):Bool:=((P.excs.lookup cl).map (·.contains c)).getD false
mutual
def wpS (g:Gx):S→(VV→Zaa→Prop)→(AV→Zaa→Prop)→(String→VV→Zaa→Prop)→VV→Zaa→Prop
 | .assign t e,QN,_,E,V,H=>wpX g e V (fun x H=>wpT g t x V QN (fun cl H=>E cl V H) H) (fun cl H=>E cl V H) H
 | .expr e,QN,_,E,V,H=>wpX g e V (fun _ H=>QN V H) (fun cl H=>E cl V H) H
 | .ret e,_,QR,E,V,H=>wpX g e V QR (fun cl H=>E cl V H) H
 | .ite c a b,QN,QR,E,V,H=>wpX g c V (fun x H=>Zbb x H fun t=>if t then wpSs g a QN QR E V H else wpSs g b QN QR E V H) (fun cl H=>E cl V H) H
 | .while c body,QN,QR,E,V,H=>g.md=true∧Zsf QN (fun q V H=>wpX g c V (fun x H=>Zbb x H fun t=>q t H) (fun cl H=>E cl V H) H)
   (fun q V H=>wpSs g body q QR E V H) V H
 | .for t it body,QN,QR,E,V,H=>g.md=true∧wpX g it V (fun v H=>WFor QN (fun x nx V H=>wtg t x V H fun V=>wpSs g body nx QR E V H) v V H) (fun cl H=>E cl V H) H
 | .raise cl _,_,_,E,V,H=>g.md=true∧E cl V H
 | .try body hs,QN,QR,E,V,H=>g.md=true∧wpSs g body QN QR (fun cl V H=>wpHs g hs cl QN QR E V H) V H
 | .pass,QN,_,_,V,H=>QN V H
def wpSs (g:Gx):List S→(VV→Zaa→Prop)→(AV→Zaa→Prop)→(String→VV→Zaa→Prop)→VV→Zaa→Prop
 | [],QN,_,_,V,H=>QN V H
 | s::r,QN,QR,E,V,H=>wpS g s (fun V H=>wpSs g r QN QR E V H) QR E V H
def wpHs (g:Gx):List Hd→String→(VV→Zaa→Prop)→(AV→Zaa→Prop)→(String→VV→Zaa→Prop)→VV→Zaa→Prop
 | [],_,_,_,_,_,_=>False
 | h::r,cl,QN,QR,E,V,H=>wpH g h cl (wpHs g r cl QN QR E V H) QN QR E V H
def wpH (g:Gx):Hd→String→Prop→(VV→Zaa→Prop)→(AV→Zaa→Prop)→(String→VV→Zaa→Prop)→VV→Zaa→Prop
 | .mk c nm b,cl,nope,QN,QR,_,V,H =>
  if Zla g.c.P cl c then
   (match nm with
   | none=>wpSs { g with md:=false } b QN QR (fun _ _ _=>False) V H
   | some i=>∀ a,H a=none→i<V.length∧wpSs { g with md:=false } b (fun V H=>QN (V.set i none) H) QR (fun _ _ _=>False) (V.set i (some (.ref a))) (up H a (.exc cl)))
  else nope
end
section
variable {g:Gx} {V:VV} {Q:AV→Zaa→Prop} {E:String→Zaa→Prop} {H:Zaa} {QL:List AV→Zaa→Prop}
theorem v_0 {x:Option AV} {r:VV}:(x::r)[0]? = some x:=rfl
theorem Zai {v:AV}:wpX g (.lit v) V Q E H=Q v H:=rfl
theorem Zad {i:Nat}:wpX g (.var i) V Q E H=(match V[i]? with | some (some v)=>Q v H | _=>False):=rfl
theorem Zar {op:Operator} {a b:X}:wpX g (.bin op a b) V Q E H=wpX g a V (fun x H=>wpX g b V (fun y H=>wbin op x y Q H) E H) E H:=rfl
theorem Zbl {a:X}:wpX g (.neg a) V Q E H=wpX g a V (fun x H=>match x with | .int i=>Q (.int (-i)) H | _=>False) E H:=rfl
theorem Za6 {a:X}:wpX g (.not a) V Q E H=wpX g a V (fun x H=>Zbb x H fun b=>Q (.bool (!b)) H) E H:=rfl
theorem x_ao {b:Bool} {xs:List X}:wpX g (.ao b xs) V Q E H=wpAO g b xs V Q E H:=rfl
theorem Zbm {c a b:X}:wpX g (.ite c a b) V Q E H=wpX g c V (fun x H=>Zbb x H fun t=>if t then wpX g a V Q E H else wpX g b V Q E H) E H:=rfl
theorem Zao {op:CmpOp} {a b:X}:wpX g (.cmp op a b) V Q E H=wpX g a V (fun x H=>wpX g b V (fun y H=>wcmp op x y Q H) E H) E H:=rfl
theorem Za0 {o₁ o₂:CmpOp} {a b d:X}:wpX g (.cmp2 o₁ o₂ a b d) V Q E H=wpX g a V (fun x H=>wpX g b V (fun y H=>wcmp o₁ x y (fun r H=>Zbb r H fun t=>if t then wpX g d V (fun z H=>wcmp o₂ y z Q H) E H else Q r H) H) E H) E H:=rfl
theorem Zav {a i:X}:wpX g (.sub a i) V Q E H=wpX g a V (fun x H=>wpX g i V (fun y H=>wsub x y Q H) E H) E H:=rfl
theorem Zap {a:X} {lo hi st:Option X}:wpX g (.slice a lo hi st) V Q E H=wpX g a V (fun x H=>wpO g lo V (fun l H=>wpO g hi V (fun u H=>wpO g st V (fun t H=>Zg9 x l u t Q H) E H) E H) E H) E H:=rfl
theorem Zaz {n:String}:wpX g (.glob n) V Q E H=(match g.c.P.consts.lookup n with | some v=>Q v H | none=>False):=rfl
theorem Zan {f:String} {xs:List X}:wpX g (.call f xs) V Q E H=wpXs g xs V (fun vs H=>CallOK g.c g.n g.md f vs Q E H) E H:=rfl
theorem Zak {f:Pr} {xs:List X}:wpX g (.prim f xs) V Q E H=wpXs g xs V (fun vs H=>Zc1 g.md f vs Q H) E H:=rfl
theorem x_bm {a:X} {m:BM} {xs:List X}:wpX g (.bm a m xs) V Q E H=wpX g a V (fun x H=>bmOn m x H∧wpXs g xs V (fun vs H=>wbm x m vs Q H) E H) E H:=rfl
theorem Zbh {a:X} {ty:String}:wpX g (.isinst a ty) V Q E H=wpX g a V (fun x H=>match Zcc g.c.P H x ty with | some b=>Q (.bool b) H | none=>False) E H:=rfl
theorem Zau {xs:List X}:wpX g (.list xs) V Q E H=wpXs g xs V (fun vs H=>∀ a,H a=none→Q (.ref a) (up H a (.list vs))) E H:=rfl
theorem Zbc {xs:List X}:wpX g (.tuple xs) V Q E H=wpXs g xs V (fun vs H=>∀ a,H a=none→Q (.ref a) (up H a (.tuple vs))) E H:=rfl
theorem Zch {cl:String} {xs:List X}:wpX g (.new cl xs) V Q E H=wpXs g xs V (fun vs H=>∀ a,H a=none→CallOK g.c g.n g.md (cl++".__init__") (.ref a::vs) (fun r H=>r = .none∧Q (.ref a) H) E (up H a (.inst cl []))) E H:=rfl
theorem Zas:wpX g (.dict [] []) V Q E H=(∀ a,H a=none→Q (.ref a) (up H a (.dict 0 []))):=rfl
theorem Zag:wpXs g [] V QL E H=QL [] H:=rfl
theorem Zae {x:X} {r:List X}:wpXs g (x::r) V QL E H=wpX g x V (fun v H=>wpXs g r V (fun vs H=>QL (v::vs) H) E H) E H:=rfl
theorem Za1 {b:Bool} {x:X}:wpAO g b [x] V Q E H=wpX g x V Q E H:=rfl
theorem Zat {b:Bool} {x y:X} {r:List X}:wpAO g b (x::y::r) V Q E H=wpX g x V (fun v H=>Zbb v H fun t=>if t=b then wpAO g b (y::r) V Q E H else Q v H) E H:=rfl
theorem Zbn {QO:Option AV→Zaa→Prop}:wpO g none V QO E H=QO none H:=rfl
theorem Zbk {QO:Option AV→Zaa→Prop} {x:X}:wpO g (some x) V QO E H=wpX g x V (fun v H=>QO (some v) H) E H:=rfl
theorem Zbt {QC:Bool→Zaa→Prop}:wpC g none V QC E H=QC true H:=rfl
theorem Zbg {QC:Bool→Zaa→Prop} {x:X}:wpC g (some x) V QC E H=wpX g x V (fun v H=>Zbb v H fun b=>QC b H) E H:=rfl
end
section
variable {g:Gx} {V:VV} {QN:VV→Zaa→Prop} {QR:AV→Zaa→Prop} {E:String→VV→Zaa→Prop} {EE:String→Zaa→Prop} {H:Zaa} {x:AV}
theorem tv {i:Nat}:wpT g (.var i) x V QN EE H=(i<V.length∧QN (V.set i (some x)) H):=rfl
theorem tsub {a i:X}:wpT g (.sub a i) x V QN EE H=wpX g a V (fun o H=>wpX g i V (fun j H=>match o,j with
   | .ref p,.str k=>(match H p with
    | some (.dict _ es)=>es.length≤sizeLine∧∀ ep,QN V (up H p (.dict ep (putS es k x)))
    | _=>False)
   | .ref p,.int j=>(match H p with
    | some (.list xs)=>0≤j∧j<xs.length∧xs.length<2 ^ 62∧QN V (up H p (.list (xs.set j.toNat x)))
    | _=>False)
   | _,_=>False) EE H) EE H:=rfl
theorem tattr {a:X} {n:String}:wpT g (.attr a n) x V QN EE H=wpX g a V (fun o H=>match o with
   | .ref p=>(match H p with
    | some (.inst cl es)=>g.c.P.attrs.contains (cl,n)=true∧es.length≤100∧QN V (up H p (.inst cl (putA es n x)))
    | _=>False)
   | _=>False) EE H:=rfl
theorem ttup {is:List Nat}:wpT g (.tup is) x V QN EE H=(g.md=true∧Zb7 is.length x H fun xs=>QN (Ziq V is xs) H):=rfl
theorem Zax {e:X}:wpS g (.expr e) QN QR E V H=wpX g e V (fun _ H=>QN V H) (fun cl H=>E cl V H) H:=rfl
theorem Za3 {cl:String} {m:Str}:wpS g (.raise cl m) QN QR E V H=(g.md=true∧E cl V H):=rfl
theorem Zb3 {t:Tg} {it:X} {b:List S}:wpS g (.for t it b) QN QR E V H=(g.md=true∧wpX g it V (fun v H=>WFor QN (fun x nx V H=>wtg t x V H fun V=>wpSs g b nx QR E V H) v V H) (fun cl H=>E cl V H) H):=rfl
theorem Zb0 {cn:X} {b:List S}:wpS g (.while cn b) QN QR E V H=(g.md=true∧Zsf QN (fun q V H=>wpX g cn V (fun x H=>Zbb x H fun t=>q t H) (fun cl H=>E cl V H) H) (fun q V H=>wpSs g b q QR E V H) V H):=rfl
theorem Zda {b:List S} {hs:List Hd}:wpS g (.try b hs) QN QR E V H=(g.md=true∧wpSs g b QN QR (fun cl V H=>wpHs g hs cl QN QR E V H) V H):=rfl
end
section
variable {g:Gx} {V:VV} {Q:AV→Zaa→Prop} {E:String→Zaa→Prop} {H:Zaa}
theorem Za5 {a:X} {n:String}:wpX g (.attr a n) V Q E H=wpX g a V (fun x H=>match x with
   | .ref p=>(match H p with
    | some (.inst cl es)=>g.c.P.attrs.contains (cl,n)=true∧(match Zed es n with | some v=>Q v H | none=>False)
    | some (.book B)=>n = "day"∧g.c.P.attrs.contains ("Book","day")=true∧Q (.int B.day) H
    | _=>False)
   | _=>False) E H:=rfl
theorem Zbd {a:X} {m:String} {xs:List X}:wpX g (.meth a m xs) V Q E H=wpX g a V (fun x H=>match x with
   | .ref p=>(match H p with
    | some (.inst cl es)=>g.c.P.meths.contains (cl,m)=true∧Zed es m=none∧wpXs g xs V (fun vs H=>CallOK g.c g.n g.md (cl++"."++m) (.ref p::vs) Q E H) E H
    | some (.book _)=>g.c.P.meths.contains ("Book",m)=true∧bookAttrs.contains m=false∧wpXs g xs V (fun vs H=>CallOK g.c g.n g.md ("Book."++m) (.ref p::vs) Q E H) E H
    | _=>False)
   | _=>False) E H:=rfl
theorem Za7 {k v:X}:wpX g (.dict [k] [v]) V Q E H=wpX g k V (fun k H=>wpX g v V (fun v H=>match k with | .str k=>∀ a ep,H a=none→Q (.ref a) (up H a (.dict ep [(k,v)])) | _=>False) E H) E H:=rfl
theorem Zba {e:X} {k:Nat} {tup:Bool} {it:X} {c:Option X}:wpX g (.comp e k tup it c) V Q E H=(g.md=true∧wpX g it V (fun v H=>Zj3 Q (fun x nx H =>
   if tup then Zb7 k x H fun xs=>wpC g c (V++xs.map some) (fun b H=>if b then wpX g e (V++xs.map some) (fun y H=>nx (some y) H) (fun _ _=>False) H else nx none H) (fun _ _=>False) H
   else wpC g c (V++[some x]) (fun b H=>if b then wpX g e (V++[some x]) (fun y H=>nx (some y) H) (fun _ _=>False) H else nx none H) (fun _ _=>False) H) v H) E H):=rfl
end
section
variable {g:Gx} {QN:VV→Zaa→Prop} {QR:AV→Zaa→Prop} {E:String→VV→Zaa→Prop} {V:VV} {H:Zaa}
theorem Zay {c:X} {a b:List S}:wpS g (.ite c a b) QN QR E V H=wpX g c V (fun x H=>Zbb x H fun t=>if t then wpSs g a QN QR E V H else wpSs g b QN QR E V H) (fun cl H=>E cl V H) H:=rfl
theorem Zbq {e:X}:wpS g (.ret e) QN QR E V H=wpX g e V QR (fun cl H=>E cl V H) H:=rfl
theorem Zam {t:T} {e:X}:wpS g (.assign t e) QN QR E V H=wpX g e V (fun x H=>wpT g t x V QN (fun cl H=>E cl V H) H) (fun cl H=>E cl V H) H:=rfl
theorem w_st {s:S} {r:List S} (h:∀ K:VV→Zaa→Prop,(∀ V H,wpSs g r QN QR E V H→K V H)→wpS g s K QR E V H):wpSs g (s::r) QN QR E V H:=h _ fun _ _ h=>h
theorem Zby:wpSs g [] QN QR E V H=QN V H:=rfl
theorem Zaw {s:S} {r:List S}:wpSs g (s::r) QN QR E V H=wpS g s (fun V H=>wpSs g r QN QR E V H) QR E V H:=rfl
theorem Zcx:wpS g .pass QN QR E V H=QN V H:=rfl
theorem Zg8 {h:Hd} {r:List Hd} {cl:String}:wpHs g (h::r) cl QN QR E V H=wpH g h cl (wpHs g r cl QN QR E V H) QN QR E V H:=rfl
theorem Zuc {c:String} {nm:Option Nat} {b:List S} {cl:String} {N:Prop}:wpH g (.mk c nm b) cl N QN QR E V H=(if Zla g.c.P cl c then
   (match nm with
   | none=>wpSs { g with md:=false } b QN QR (fun _ _ _=>False) V H
   | some i=>∀ a,H a=none→i<V.length∧wpSs { g with md:=false } b (fun V H=>QN (V.set i none) H) QR (fun _ _ _=>False) (V.set i (some (.ref a))) (up H a (.exc cl)))
  else N):=rfl
end
section
variable {md:Bool} {Q:AV→Zaa→Prop} {H:Zaa} {a p:Addr} {v:AV}
theorem Zhw {s:Str}:Zc1 md .len [.str s] Q H=(s.length<2 ^ 62∧Q (.int s.length) H):=rfl
theorem Zf8 {b:Int}:Zc1 md .range [.int b] Q H=((-(2 ^ 62)<b∧b<2 ^ 62)∧∀ z,H z=none→Q (.ref z) (up H z (.range 0 b))):=rfl
theorem Zfo {a b:Int}:Zc1 md .range [.int a,.int b] Q H=((-(2 ^ 62)<a∧a<2 ^ 62∧-(2 ^ 62)<b∧b<2 ^ 62)∧∀ z,H z=none→Q (.ref z) (up H z (.range a b))):=rfl
theorem Zp9 {b:Bool}:Zc1 md .int [.bool b] Q H=Q (.int (if b then 1 else 0)) H:=rfl
theorem Z03 {a b:Int}:Zc1 md .min [.int a,.int b] Q H=(md=true∧Q (.int (if b<a then b else a)) H):=rfl
theorem Zmz {s:Str} {i:Int}:wsub (.str s) (.int i) Q H=(0≤i∧i<2 ^ 63∧∃ ch,s.cps[i.toNat]? = some ch∧Q (.str ⟨#[ch]⟩) H):=rfl
theorem Z0p {s:Str} {l:Int}:Zg9 (.str s) (some (.int l)) none none Q H=(0≤l∧l≤s.length∧s.length≤sizeLine∧Q (.str ⟨(s.cps.toList.drop l.toNat).toArray⟩) H):=rfl
theorem Z0q {s:Str} {u:Int}:Zg9 (.str s) none (some (.int u)) none Q H=(0≤u∧u≤s.length∧s.length≤sizeLine∧Q (.str ⟨(s.cps.toList.take u.toNat).toArray⟩) H):=rfl
theorem Ze2:Zc1 md .len [.ref a] Q H=(match H a with
   | some (.list xs)=>xs.length<2 ^ 62∧Q (.int xs.length) H
   | some (.tuple xs)=>xs.length<2 ^ 62∧Q (.int xs.length) H
   | some (.dict _ es)=>es.length<2 ^ 62∧Q (.int es.length) H
   | some (.script ns)=>ns.length<2 ^ 62∧Q (.int ns.length) H
   | _=>False):=rfl
theorem Zd9:Zc1 md .list [.ref a] Q H=(match H a with
   | some (.list xs)=>xs.length≤sizeLine∧∀ z,H z=none→Q (.ref z) (up H z (.list xs))
   | some (.tuple xs)=>xs.length≤sizeLine∧∀ z,H z=none→Q (.ref z) (up H z (.list xs))
   | some (.dict _ es)=>md=true∧es.length≤sizeLine∧∀ z,H z=none→Q (.ref z) (up H z (.list (es.map fun e=>.str e.1)))
   | some (.vals d)=>(match H d with
    | some (.dict _ es)=>md=true∧es.length≤sizeLine∧∀ z,H z=none→Q (.ref z) (up H z (.list (es.map (·.2))))
    | _=>False)
   | some (.itms d)=>(match H d with
    | some (.dict _ es)=>md=true∧es.length≤sizeLine∧Zfp H es fun ts H'=>∀ z,H' z=none→Q (.ref z) (up H' z (.list (ts.map .ref)))
    | _=>False)
   | _=>False):=rfl
theorem Zgn:Zc1 md .sum [.ref a] Q H=(md=true∧(match H a with
   | some (.list xs)=>∃ ns:List Int,xs=ns.map .int∧Q (.int ns.sum) H
   | some (.vals d)=>(match H d with
    | some (.dict _ es)=>∃ ns:List Int,es.map (·.2)=ns.map .int∧Q (.int ns.sum) H
    | _=>False)
   | _=>False)):=rfl
theorem Ziv:Zc1 md .all [.ref a] Q H=(md=true∧(match H a with
   | some (.list xs)=>∃ bs:List Bool,xs=bs.map .bool∧Q (.bool (bs.all id)) H
   | _=>False)):=rfl
theorem Z09:wbm (.ref p) .append [v] Q H=(match H p with
  | some (.list xs)=>xs.length≤sizeLine∧Q .none (up H p (.list (xs++[v])))
  | _=>False):=rfl
theorem Zwp:wbm (.ref p) .values [] Q H=(match H p with
  | some (.dict _ _)=>∀ z,H z=none→Q (.ref z) (up H z (.vals p))
  | _=>False):=rfl
theorem Z08:wbm (.ref p) .items [] Q H=(match H p with
  | some (.dict _ _)=>∀ z,H z=none→Q (.ref z) (up H z (.itms p))
  | _=>False):=rfl
theorem Zxz {P:Bool→Prop}:Zbb (.ref a) H P=(match H a with
  | some (.list xs)=>xs.length<2 ^ 62∧P (!xs.isEmpty)
  | some (.tuple xs)=>xs.length<2 ^ 62∧P (!xs.isEmpty)
  | _=>False):=rfl
theorem Zfg {i:Int}:wsub (.ref a) (.int i) Q H=(match H a with
  | some (.list xs)=>∃ j v,Zf5 xs.length i=some j∧i<2 ^ 63∧-(2 ^ 63)≤i∧xs[j]? = some v∧Q v H
  | some (.tuple xs)=>∃ j v,Zf5 xs.length i=some j∧i<2 ^ 63∧-(2 ^ 63)≤i∧xs[j]? = some v∧Q v H
  | some (.script ns)=>0≤i∧i<2 ^ 63∧∃ n,ns[i.toNat]? = some n∧Q (.int n) H
  | _=>False):=rfl
theorem Ze1 {k:Str}:wsub (.ref a) (.str k) Q H=(match H a with
  | some (.dict _ es)=>∃ v,Zb8 es k=some v∧Q v H
  | _=>False):=rfl
theorem Zu1 {lo hi st:Option AV}:Zg9 (.ref a) lo hi st Q H=(match H a with
  | some (.list xs)=>∃ l u t,Zii lo=some l∧Zii hi=some u∧Zii st=some t∧t≠some 0∧xs.length≤sizeLine∧∀ z,H z=none→Q (.ref z) (up H z (.list (Zb1 xs l u t)))
  | _=>False):=rfl
theorem Zgt {no:Bool} {x:AV}:win no x (.ref a) Q H=(match H a with
  | some (.list ys)=>∃ d ds,RD H x d∧RDs H ys ds∧okD d∧Zh8 ds=true∧Q (.bool (nt no (ds.any fun y=>PyData.eqv y d))) H
  | some (.dict _ es)=>match x with
   | .str k=>Q (.bool (nt no (Zb8 es k).isSome)) H
   | _=>False
  | _=>False):=rfl
theorem Zme {no:Bool} {x:AV} {s:Str}:win no x (.str s) Q H=(match x with
  | .str k=>∃ ch,k=⟨#[ch]⟩∧Q (.bool (nt no (s.cps.toList.contains ch))) H
  | _=>False):=rfl
end
theorem Zzx {x y:Str}:PyData.eqv (.str x) (.str y)=(x==y):=rfl
theorem Z1j {x y:List PyData}:PyData.eqv (.list x) (.list y)=PyData.eqvAll x y:=rfl
theorem Z1k {x y:PyData} {r q:List PyData}:PyData.eqvAll (x::r) (y::q)=(PyData.eqv x y&&PyData.eqvAll r q):=rfl
end Mine
end
section
namespace Mine
theorem lts {h:Heap} {a:Addr} {o:Obj} (e:h.get? a=some o):@LT.lt Nat _ a h.objs.size:=Heap.lt_size e
theorem leN {a b:Nat} (h:a≤b):a≤b:=h
theorem Zac {H:Zaa} {a:Addr} {o:AObj}:up H a o a=some o:=by simp [up]
theorem Zab {H:Zaa} {a b:Addr} {o:AObj} (h:b≠a):up H a o b=H b:=by simp [up,h]
theorem Zaq {R:RR} {a:Addr} {r:Res}:rup R a r a=some r:=by simp [rup]
theorem Zah {R:RR} {a b:Addr} {r:Res} (h:b≠a):rup R a r b=R b:=by simp [rup,h]
theorem Znq {h:Heap} {a:Addr} (e:h.objs.size≤a):h.get? a=none:=by
 cases q:h.get? a with
 | none=>rfl
 | some o=>have:=lts q;have:=leN e;omega
theorem abv {c:Cx} {a:Addr} {o:AObj} (h:c.base.objs.size≤a):Abv c a o:=⟨fun _=>Znq h,fun _=>h⟩
theorem VRs.length {as vs} (h:VRs as vs):as.length=vs.length:=by
 induction h with
 | nil=>rfl
 | cons _ _ ih=>simp [ih]
theorem VRs.get {as vs} (h:VRs as vs):∀ {i:Nat} {a:AV},as[i]? = some a→∃ v,vs[i]? = some v∧VR a v:=by
 induction h with
 | nil=>intro i a e;simp at e
 | cons ha _ ih =>
  intro i a e;cases i with
  | zero=>simp at e;subst e;exact ⟨_,by simp,ha⟩
  | succ i=>simp at e;obtain ⟨v,h1,h2⟩:=ih e;exact ⟨v,by simpa using h1,h2⟩
theorem VRs.append {as vs bs us} (h:VRs as vs) (k:VRs bs us):VRs (as++bs) (vs++us):=by
 induction h with
 | nil=>exact k
 | cons ha _ ih=>exact .cons ha ih
theorem VRs.one {a v} (h:VR a v):VRs [a] [v]:=.cons h .nil
theorem VRs.drop {as vs} (h:VRs as vs) (n:Nat):VRs (as.drop n) (vs.drop n):=by
 induction h generalizing n with
 | nil=>simp;exact .nil
 | cons ha hr ih=>cases n with
  | zero=>exact .cons ha hr
  | succ n=>exact ih n
theorem VRs.take {as vs} (h:VRs as vs) (n:Nat):VRs (as.take n) (vs.take n):=by
 induction h generalizing n with
 | nil=>simp;exact .nil
 | cons ha hr ih=>cases n with
  | zero=>exact .nil
  | succ n=>exact .cons ha (ih n)
theorem VRs.set {as vs} (h:VRs as vs) {a v} (hv:VR a v) (n:Nat):VRs (as.set n a) (vs.set n v):=by
 induction h generalizing n with
 | nil=>exact .nil
 | cons ha hr ih=>cases n with
  | zero=>exact .cons hv hr
  | succ n=>exact .cons ha (ih n)
theorem ORep.there {c:Cx} {h:Heap} {D:Addr→Addr} {a:Addr} {o:AObj} (r:ORep c h D a o):∃ ob,h.get? a=some ob:=by
 cases o with
 | book=>exact r.elim
 | list=>obtain ⟨_,_,e,_⟩:=r;exact ⟨_,e⟩
 | tuple=>obtain ⟨_,_,e,_⟩:=r;exact ⟨_,e⟩
 | dict=>obtain ⟨_,⟨_,_,e,_⟩,_⟩:=r;exact ⟨_,e⟩
 | inst=>exact ⟨_,r.1⟩
 | range=>obtain ⟨_,_,_,_,e⟩:=r;exact ⟨_,e⟩
 | vals=>exact ⟨_,r⟩
 | itms=>exact ⟨_,r⟩
 | exc=>obtain ⟨_,e,_⟩:=r;exact ⟨_,e⟩
 | script=>obtain ⟨_,_,e,_⟩:=r;exact ⟨_,e⟩
theorem ORep.agree {c:Cx} {h h':Heap} {D D':Addr→Addr} {a:Addr} {o:AObj} (r:ORep c h D a o) (e:∀ ob,h.get? a=some ob→h'.get? a=some ob)
  (e2:∀ cl es,o = .inst cl es→D' a=D a∧∀ ob,h.get? (D a)=some ob→h'.get? (D a)=some ob):ORep c h' D' a o:=by
 cases o with
 | book=>exact r.elim
 | list=>obtain ⟨vs,n,q,x⟩:=r;exact ⟨vs,n,e _ q,x⟩
 | tuple=>obtain ⟨vs,n,q,x⟩:=r;exact ⟨vs,n,e _ q,x⟩
 | dict=>obtain ⟨kvs,⟨o,es,q,x⟩,y⟩:=r;exact ⟨kvs,⟨o,es,e _ q,x⟩,y⟩
 | inst cl es =>
  obtain ⟨q,ents,n,q2,x⟩:=r;obtain ⟨d1,d2⟩:=e2 cl es rfl;exact ⟨by refine rl d1 ?_;exact e _ q,ents,n,by refine rl d1 ?_;exact d2 _ q2,x⟩
 | range=>obtain ⟨z,t,u,v,q⟩:=r;exact ⟨z,t,u,v,e _ q⟩
 | vals=>exact e _ r
 | itms=>exact e _ r
 | exc=>obtain ⟨o,q,x⟩:=r;exact ⟨o,e _ q,x⟩
 | script=>obtain ⟨vs,n,q,x⟩:=r;exact ⟨vs,n,e _ q,x⟩
theorem ResAt.agree {h h':Heap} {b:Addr} {r:Res} (x:ResAt h b r) (e:∀ ob,h.get? b=some ob→h'.get? b=some ob):ResAt h' b r:=by
 cases r with
 | ns m=>obtain ⟨o,es,ep,q,y⟩:=x;exact ⟨o,es,ep,e _ q,y⟩
 | cell v=>obtain ⟨o,q,y⟩:=x;exact ⟨o,e _ q,y⟩
 | obj o=>exact e _ x
theorem ResAt.there {h:Heap} {b:Addr} {r:Res} (x:ResAt h b r):∃ ob,h.get? b=some ob:=by
 cases r with
 | ns m=>obtain ⟨o,es,ep,q,y⟩:=x;exact ⟨o,q⟩
 | cell v=>obtain ⟨o,q,y⟩:=x;exact ⟨o,q⟩
 | obj o=>exact ⟨_,x⟩
section
variable {c:Cx} {R R':RR} {H:Zaa} {h h':Heap}
theorem St1.weaken (S:St1 c R' H h) (k:∀ b r,R b=some r→R' b=some r):St1 c R H h:=by
 obtain ⟨s1,s2,s3,D,s4⟩:=S;have nn:∀ a,R' a=none→R a=none:=fun a e=>by
  cases q:R a with
  | none=>rfl
  | some r=>rw [k a r q] at e;contradiction
 exact ⟨s1,s2,fun b r e=>s3 b r (k b r e),D,⟨s4.rep,fun a o e=>⟨(s4.above a o e).1,nn _ (s4.above a o e).2⟩,
  fun a cl es e=>⟨(s4.dict a cl es e).1,nn _ (s4.dict a cl es e).2.1,(s4.dict a cl es e).2.2⟩,s4.inj⟩⟩
theorem St1.keeps (S:St1 c R H h) (k:∀ b o,h.get? b=some o→h'.get? b=some o) (hs:h.objs.size≤h'.objs.size):St1 c R H h':=by
 obtain ⟨s1,s2,s3,D,s4⟩:=S;exact ⟨fun b o e=>k b o (s1 b o e),le_trans s2 hs,fun b r e=>⟨(s3 b r e).1,(s3 b r e).2.agree fun _=>k _ _⟩,D,
  ⟨fun a o e=>(s4.rep a o e).agree (fun _=>k _ _) fun _ _ _=>⟨rfl,fun _=>k _ _⟩,s4.above,s4.dict,s4.inj⟩⟩
theorem St1.push (S:St1 c R H h) (o:Obj):St1 c R H (h.push o):=S.keeps (fun _ _ e=>Heap.get?_push_of_some o e) (by refine rl (Heap.size_push ..) ?_;lia)
theorem St1.freeH (S:St1 c R H h) {x:Addr} (hx:h.objs.size≤x):H x=none:=by
 cases q:H x with
 | none=>rfl
 | some o =>
  obtain ⟨D,s4⟩:=S.rep;obtain ⟨ob,e⟩:=(s4.rep _ _ q).there;have:=lts e;have:=leN hx;omega
theorem St1.freeR (S:St1 c R H h) {x:Addr} (hx:h.objs.size≤x):R x=none:=by
 cases q:R x with
 | none=>rfl
 | some o =>
  obtain ⟨ob,e⟩:=(S.res _ _ q).2.there;have:=lts e;have:=leN hx;omega
theorem St1.newObj (S:St1 c R H h) {x:Addr} {o:AObj} (hx:h.objs.size≤x) (k:∀ b ob,h.get? b=some ob→h'.get? b=some ob) (hs:h.objs.size≤h'.objs.size)
  (hni:∀ cl es,o≠.inst cl es) (ho:∀ D,ORep c h' D x o):H x=none∧St1 c R (up H x o) h':=by
 refine ⟨S.freeH hx,?_⟩;have hRx:=S.freeR hx;have hb:=S.size;have S':=S.keeps k hs;obtain ⟨s1,s2,s3,D,s4⟩:=S';have hD:∀ a cl es,H a=some (.inst cl es)→D a≠x:=fun a cl es e q=>by
  obtain ⟨D0,s40⟩:=S.rep;obtain ⟨q1,ents,n,q2,_⟩:=s4.rep a _ e;obtain ⟨p1,ents',n',p2,_⟩:=s40.rep a _ e;have:=k _ _ p1;rw [q1] at this;have hd:D a=D0 a:=by injection this with this;injection this with _ z;exact osi z
  have hlt:=lts p2;have hx':=leN hx;rw [← hd,q] at hlt;lia
 refine ⟨s1,s2,s3,D,⟨fun a ao e=>?_,fun a ao e=>?_,fun a cl es e=>?_,fun a b cl es cl' es' e e'=>?_⟩⟩
 ·by_cases q:a=x
  ·subst q;rw [Zac] at e;obtain rfl:=osi e;exact ho D
  ·rw [Zab q] at e;exact s4.rep a ao e
 ·by_cases q:a=x
  ·subst q;exact ⟨abv (by have:=leN hx;lia),hRx⟩
  ·rw [Zab q] at e;exact s4.above a ao e
 ·by_cases q:a=x
  ·subst q;rw [Zac] at e;obtain rfl:=osi e;exact absurd rfl (hni cl es)
  ·rw [Zab q] at e;obtain ⟨y1,y2,y3⟩:=s4.dict a cl es e;exact ⟨y1,y2,by refine rl (Zab (hD a cl es e)) ?_;exact y3⟩
 ·by_cases q:a=x
  ·subst q;rw [Zac] at e;obtain rfl:=osi e;exact absurd rfl (hni cl es)
  ·by_cases q':b=x
   ·subst q';rw [Zac] at e';obtain rfl:=osi e';exact absurd rfl (hni cl' es')
   ·rw [Zab q] at e;rw [Zab q'] at e';exact s4.inj a b cl es cl' es' e e'
theorem St1.newRes (S:St1 c R H h) {x:Addr} {r:Res} (hx:h.objs.size≤x) (k:∀ b ob,h.get? b=some ob→h'.get? b=some ob) (hs:h.objs.size≤h'.objs.size)
  (hr:ResAt h' x r):R x=none∧H x=none∧St1 c (rup R x r) H h':=by
 refine ⟨S.freeR hx,S.freeH hx,?_⟩;have hHx:=S.freeH hx;have hb:=S.size;obtain ⟨D0,s40⟩:=S.rep;have S':=S.keeps k hs;obtain ⟨s1,s2,s3,D,s4⟩:=S';have hD:∀ a cl es,H a=some (.inst cl es)→D a≠x:=fun a cl es e q=>by
  obtain ⟨q1,ents,n,q2,_⟩:=s4.rep a _ e;obtain ⟨p1,ents',n',p2,_⟩:=s40.rep a _ e;have:=k _ _ p1;rw [q1] at this;have hd:D a=D0 a:=by injection this with this;injection this with _ z;exact osi z
  have hlt:=lts p2;have hx':=leN hx;rw [← hd,q] at hlt;lia
 refine ⟨s1,s2,fun b rr e=>?_,D,⟨s4.rep,fun a ao e=>?_,fun a cl es e=>?_,s4.inj⟩⟩
 ·by_cases q:b=x
  ·subst q;rw [Zaq] at e;obtain rfl:=osi e;exact ⟨by lia,hr⟩
  ·rw [Zah q] at e;exact s3 b rr e
 ·obtain ⟨y1,y2⟩:=s4.above a ao e;exact ⟨y1,by refine rl (Zah (fun q=>by rw [q,hHx] at e;contradiction)) ?_;exact y2⟩
 ·obtain ⟨y1,y2,y3⟩:=s4.dict a cl es e;exact ⟨y1,by refine rl (Zah (hD a cl es e)) ?_;exact y2,y3⟩
theorem St1.setRes (S:St1 c R H h) {x:Addr} {r r':Res} (hx:R x=some r) (hs:Heap.SameBut x h h') (hr:ResAt h' x r'):St1 c (rup R x r') H h':=by
 obtain ⟨s1,s2,s3,D,s4⟩:=S;have bx:c.base.get? x=none:=by
  cases q:c.base.get? x with
  | none=>rfl
  | some o=>have:=lts q;have:=leN (s3 x r hx).1;lia
 refine ⟨fun b o e=>?_,by refine rl hs.1 ?_;exact s2,fun b rr e=>?_,D,⟨fun a ao e=>?_,fun a ao e=>?_,fun a cl es e=>?_,s4.inj⟩⟩
 ·refine rl (hs.2 b (fun q=>by rw [q,bx] at e;contradiction)) ?_;exact s1 b o e
 ·by_cases q:b=x
  ·subst q;rw [Zaq] at e;obtain rfl:=osi e;exact ⟨(s3 b r hx).1,hr⟩
  ·rw [Zah q] at e;exact ⟨(s3 b rr e).1,(s3 b rr e).2.agree fun ob z=>by refine rl (hs.2 b q) ?_;exact z⟩
 ·refine (s4.rep a ao e).agree (fun ob z=>?_) fun cl es eo=>⟨rfl,fun ob z=>?_⟩
  ·refine rl (hs.2 a (fun q=>by have:=(s4.above a ao e).2;rw [q,hx] at this;contradiction)) ?_;exact z
  ·subst eo;refine rl (hs.2 _ (fun q=>by have:=(s4.dict a cl es e).2.1;rw [q,hx] at this;contradiction)) ?_;exact z
 ·obtain ⟨y1,y2⟩:=s4.above a ao e;exact ⟨y1,by refine rl (Zah (fun q=>by rw [q,hx] at y2;contradiction)) ?_;exact y2⟩
 ·obtain ⟨y1,y2,y3⟩:=s4.dict a cl es e;exact ⟨y1,by refine rl (Zah (fun q=>by rw [q,hx] at y2;contradiction)) ?_;exact y2,y3⟩
theorem St1.setObj (S:St1 c R H h) {x:Addr} {o o':AObj} (hx:H x=some o) (hni':∀ cl es,o'≠.inst cl es) (hs:Heap.SameBut x h h')
  (ho:∀ D,ORep c h' D x o') (hne:o.isX=false:=by rfl):St1 c R (up H x o') h':=by
 obtain ⟨s1,s2,s3,D,s4⟩:=S;have bx:c.base.get? x=none:=Znq ((s4.above x _ hx).1.2 hne);refine ⟨fun b o e=>?_,by refine rl hs.1 ?_;exact s2,fun b rr e=>?_,D,⟨fun a ao e=>?_,fun a ao e=>?_,fun a cl es e=>?_,fun a b cl es cl' es' e e'=>?_⟩⟩
 ·refine rl (hs.2 b (fun q=>by rw [q,bx] at e;contradiction)) ?_;exact s1 b o e
 ·exact ⟨(s3 b rr e).1,(s3 b rr e).2.agree fun ob z=>by refine rl (hs.2 b (fun q=>by have:=(s4.above x _ hx).2;rw [q,this] at e;contradiction)) ?_;exact z⟩
 ·by_cases q:a=x
  ·subst q;rw [Zac] at e;obtain rfl:=osi e;exact ho D
  ·rw [Zab q] at e;refine (s4.rep a ao e).agree (fun ob z=>by refine rl (hs.2 a q) ?_;exact z) fun cl es eo=>⟨rfl,fun ob z=>?_⟩
   subst eo;refine rl (hs.2 _ (fun q=>by have:=(s4.dict a cl es e).2.2;rw [q,hx] at this;contradiction)) ?_;exact z
 ·by_cases q:a=x
  ·subst q;exact ⟨abv ((s4.above a _ hx).1.2 hne),(s4.above a _ hx).2⟩
  ·rw [Zab q] at e;exact s4.above a ao e
 ·by_cases q:a=x
  ·subst q;rw [Zac] at e;obtain rfl:=osi e;exact absurd rfl (hni' cl es)
  ·rw [Zab q] at e;obtain ⟨y1,y2,y3⟩:=s4.dict a cl es e;exact ⟨y1,y2,by refine rl (Zab (fun q=>by rw [q,hx] at y3;contradiction)) ?_;exact y3⟩
 ·by_cases q:a=x
  ·subst q;rw [Zac] at e;obtain rfl:=osi e;exact absurd rfl (hni' cl es)
  ·by_cases q':b=x
   ·subst q';rw [Zac] at e';obtain rfl:=osi e';exact absurd rfl (hni' cl' es')
   ·rw [Zab q] at e;rw [Zab q'] at e';exact s4.inj a b cl es cl' es' e e'
theorem St1.setAttr (S:St1 c R H h) {x:Addr} {cl:String} {es:List (String×AV)} (hx:H x=some (.inst cl es)) :
  ∃ d ents n,h.get? x=some (instObj (c.ca cl) d)∧h.get? d=some (dictOf ents n)∧Zck es ents∧(es.map (·.1)).Nodup ∧
   ∀ h' ents' n' es',Heap.SameBut d h h'→h'.get? d=some (dictOf ents' n')→Zck es' ents'→(es'.map (·.1)).Nodup→St1 c R (up H x (.inst cl es')) h':=by
 obtain ⟨s1,s2,s3,D,s4⟩:=S;obtain ⟨e1,ents,n,e2,e3,e4⟩:=s4.rep x _ hx;refine ⟨D x,ents,n,e1,e2,e3,e4,fun h' ents' n' es' hs hd ha hnd=>?_⟩;obtain ⟨d1,d2,d3⟩:=s4.dict x cl es hx;have bx:c.base.get? (D x)=none:=by
  cases q:c.base.get? (D x) with
  | none=>rfl
  | some o=>have:=lts q;have:=leN d1;lia
 refine ⟨fun b o e=>?_,by refine rl hs.1 ?_;exact s2,fun b rr e=>?_,D,⟨fun a ao e=>?_,fun a ao e=>?_,fun a cl' es'' e=>?_,fun a b cla esa clb esb e e'=>?_⟩⟩
 ·refine rl (hs.2 b (fun q=>by rw [q,bx] at e;contradiction)) ?_;exact s1 b o e
 ·exact ⟨(s3 b rr e).1,(s3 b rr e).2.agree fun ob z=>by refine rl (hs.2 b (fun q=>by rw [q,d2] at e;contradiction)) ?_;exact z⟩
 ·by_cases q:a=x
  ·subst q;rw [Zac] at e;obtain rfl:=osi e;exact ⟨by refine rl (hs.2 a (fun q=>by rw [← q,hx] at d3;contradiction)) ?_;exact e1,ents',n',hd,ha,hnd⟩
  ·rw [Zab q] at e;refine (s4.rep a ao e).agree (fun ob z=>by refine rl (hs.2 a (fun q=>by rw [q,d3] at e;contradiction)) ?_;exact z) fun cl' es'' eo=>⟨rfl,fun ob z=>?_⟩
   subst eo;refine rl (hs.2 _ (fun q'=>q (s4.inj a x _ _ _ _ e hx q'))) ?_;exact z
 ·by_cases q:a=x
  ·subst q;exact ⟨abv ((s4.above a _ hx).1.2 rfl),(s4.above a _ hx).2⟩
  ·rw [Zab q] at e;exact s4.above a ao e
 ·by_cases q:a=x
  ·subst q;exact ⟨d1,d2,by refine rl (Zab (fun q=>by rw [q,hx] at d3;contradiction)) ?_;exact d3⟩
  ·rw [Zab q] at e;obtain ⟨y1,y2,y3⟩:=s4.dict a cl' es'' e;exact ⟨y1,y2,by refine rl (Zab (fun q=>by rw [q,hx] at y3;contradiction)) ?_;exact y3⟩
 ·have t:∀ z cz ez,up H x (.inst cl es') z=some (.inst cz ez)→∃ c0 e0,H z=some (.inst c0 e0):=fun z cz ez ez'=>by
   by_cases q:z=x
   ·subst q;exact ⟨_,_,hx⟩
   ·rw [Zab q] at ez';exact ⟨_,_,ez'⟩
  obtain ⟨_,_,t1⟩:=t a _ _ e;obtain ⟨_,_,t2⟩:=t b _ _ e';exact s4.inj a b _ _ _ _ t1 t2
theorem St1.newInst (S:St1 c R H h) {cl:String}:H (h.objs.size+1)=none∧St1 c R (up H (h.objs.size+1) (.inst cl [])) ((h.push emptyDict).push (instObj (c.ca cl) h.objs.size)):=by
 refine ⟨S.freeH (by lia),?_⟩;have hfd:=S.freeH (x:=h.objs.size) (by lia);have hfi:=S.freeH (x:=h.objs.size+1) (by lia);have hrd:=S.freeR (x:=h.objs.size) (by lia);have hri:=S.freeR (x:=h.objs.size+1) (by lia);have k:∀ b o,h.get? b=some o→((h.push emptyDict).push (instObj (c.ca cl) h.objs.size)).get? b=some o:=fun b o e=>Heap.get?_push_of_some _ (Heap.get?_push_of_some _ e);obtain ⟨s1,s2,s3,D,s4⟩:=S;have hDlt:∀ a cl es,H a=some (.inst cl es)→@LT.lt Nat _ (D a) h.objs.size:=fun a cl es e=>by
  obtain ⟨_,_,_,q,_⟩:=s4.rep a _ e;exact lts q
 refine ⟨fun b o e=>k b o (s1 b o e),by refine rl (Heap.size_push ..) (rl (Heap.size_push ..) ?_);lia,fun b r e=>⟨(s3 b r e).1,(s3 b r e).2.agree fun _=>k _ _⟩,
  fun a=>if a=h.objs.size+1 then h.objs.size else D a,⟨fun a ao e=>?_,fun a ao e=>?_,fun a cl' es e=>?_,fun a b cla esa clb esb e e' hq=>?_⟩⟩
 ·by_cases q:a=h.objs.size+1
  ·subst q;rw [Zac] at e;obtain rfl:=osi e;refine ⟨?_,[],0,?_,trivial,by simp⟩
   ·simp only [if_true];have:=Heap.get?_push_size (h.push emptyDict) (o:=instObj (c.ca cl) h.objs.size) rfl
    rwa [Heap.size_push] at this
   ·simp only [if_true];exact Heap.get?_push_of_some _ (Heap.get?_push_size h rfl)
  ·rw [Zab q] at e;exact (s4.rep a ao e).agree (fun _=>k _ _) fun cl' es eo=>⟨by simp [q],fun _=>k _ _⟩
 ·by_cases q:a=h.objs.size+1
  ·subst q;exact ⟨abv (by lia),hri⟩
  ·rw [Zab q] at e;exact s4.above a ao e
 ·by_cases q:a=h.objs.size+1
  ·subst q;simp only [if_true];exact ⟨s2,hrd,by refine rl (Zab (ne_of_lt (lt_succ_self _))) ?_;exact hfd⟩
  ·rw [Zab q] at e;simp only [if_neg q];obtain ⟨y1,y2,y3⟩:=s4.dict a cl' es e;have:=hDlt a cl' es e;exact ⟨y1,y2,by refine rl (Zab (ne_of_lt (Nat.lt_succ_of_lt this))) ?_;exact y3⟩
 ·by_cases q:a=h.objs.size+1
  ·by_cases q':b=h.objs.size+1
   ·exact rl q (rl q' rfl)
   ·rw [Zab q'] at e';simp only [q,q',if_true,if_false] at hq;exact absurd hq (ne_of_gt (hDlt b _ _ e'))
  ·rw [Zab q] at e;by_cases q':b=h.objs.size+1
   ·simp only [q,q',if_true,if_false] at hq;exact absurd hq (ne_of_lt (hDlt a _ _ e))
   ·rw [Zab q'] at e';simp only [q,q',if_false] at hq;exact s4.inj a b _ _ _ _ e e' hq
end
theorem Sm.refl (s:Shared):Sm s s:=⟨s.heap,s.toks,rfl⟩
theorem Sm.mk' (s:Shared) (h:Heap) (tk:Nat):Sm s { s with heap:=h,toks:=tk }:=⟨h,tk,rfl⟩
theorem Sm.trans {s s' s'':Shared} (x:Sm s s') (y:Sm s' s''):Sm s s'':=by
 obtain ⟨h,t,rfl⟩:=x;obtain ⟨h',t',rfl⟩:=y;exact ⟨h',t',rfl⟩
def KB (P:Role→Prop) (o o':Addr→Option Role) (H H':Zaa):Prop:=∀ a r x,P r→o a=some r→H a=some x→x.isB=false→o' a=some r∧H' a=some x
section
variable {P:Role→Prop} {o o':Addr→Option Role} {H H':Zaa} (k:KB P o o' H H') (hd:P .data)
include k hd
theorem pairsAV.congr:∀ {ts:List Addr} {l:List (Str×Int)},pairsAV o H ts l→pairsAV o' H' ts l
 | [],[],_=>trivial
 | t::_,_::_,⟨h1,h2,h3⟩=>⟨(k t _ _ hd h1 h2 rfl).1,(k t _ _ hd h1 h2 rfl).2,h3.congr⟩
 | [],_::_,h=>h.elim
 | _::_,[],h=>h.elim
theorem PairsAt.congr {p:Addr} {l:List (Str×Int)} (h:PairsAt o H p l):PairsAt o' H' p l:=by
 obtain ⟨h1,ts,h2,h3⟩:=h;exact ⟨(k p _ _ hd h1 h2 rfl).1,ts,(k p _ _ hd h1 h2 rfl).2,h3.congr k hd⟩
theorem IsPact.congr {i:Nat} (hp:P (.pact i)∧P (.inside i)) {a:Addr} {q:Pc} (h:IsPact o H i a q):IsPact o' H' i a q:=by
 obtain ⟨h1,pa,ga,ne,ins,ep,h2,h3,h4,h5,h6,h7,h8⟩:=h;exact ⟨(k a _ _ hp.1 h1 h2 rfl).1,pa,ga,ne,ins,ep,(k a _ _ hp.1 h1 h2 rfl).2,h3.congr k hd,h4.congr k hd,(k ne _ _ hd h5 h6 rfl).1,(k ne _ _ hd h5 h6 rfl).2,(k ins _ _ hp.2 h7 h8 rfl).1,(k ins _ _ hp.2 h7 h8 rfl).2⟩
theorem pactsAt.congr:∀ {i:Nat} {as:List Addr} {qs:List Pc},(∀ j,i≤j→P (.pact j)∧P (.inside j))→pactsAt o H i as qs→pactsAt o' H' i as qs
 | _,[],[],_,_=>trivial
 | i,_::_,_::_,hp,⟨h1,h2⟩=>⟨h1.congr k hd (hp i (le_refl _)),h2.congr fun j hj=>hp j (Nat.le_of_succ_le hj)⟩
 | _,[],_::_,_,h=>h.elim
 | _,_::_,[],_,h=>h.elim
end
theorem IsBook.congr {o o':Addr→Option Role} {H H':Zaa} (k:KB (fun _=>True) o o' H H') {b f s p:Addr} {as:List Addr} {B:Bk} (h:IsBook o H b f s p as B):IsBook o' H' b f s p as B:=by
 obtain ⟨h1,h2,h3,h4,h5,⟨e1,h6⟩,⟨e2,h7⟩,⟨e3,h8⟩,h9⟩:=h;exact ⟨(k b _ _ trivial h1 h5 rfl).1,(k f _ _ trivial h2 h6 rfl).1,(k s _ _ trivial h3 h7 rfl).1,(k p _ _ trivial h4 h8 rfl).1,(k b _ _ trivial h1 h5 rfl).2,⟨e1,(k f _ _ trivial h2 h6 rfl).2⟩,⟨e2,(k s _ _ trivial h3 h7 rfl).2⟩,⟨e3,(k p _ _ trivial h4 h8 rfl).2⟩,h9.congr k trivial fun _ _=>⟨trivial,trivial⟩⟩
set_option tactic.hygienic true in
theorem ownB_some {o:Addr→Option (Addr×Role)} {b a:Addr} {r:Role}:ownB o b a=some r↔o a=some (b,r):=by
 unfold ownB;split
 ·rename_i c r' e;refine rl e ?_;by_cases q:c=b<;>simp [q]
 ·rename_i e;refine rl e ?_;simp
section
variable {H H₁:Zaa}
theorem Real.get (r:Real H H₁) {a:Addr} {x:AObj} (e:H a=some x) (hb:x.isB=false):H₁ a=some x:=by
 obtain ⟨_,o,h⟩:=r;rcases h a x e with ⟨_,h,_⟩ | ⟨B,_,_,_,_,rfl,_⟩
 ·exact h
 ·contradiction
theorem Real.none (r:Real H H₁) {a:Addr} (e:H₁ a=Option.none):H a=Option.none:=by
 obtain ⟨_,o,h⟩:=r;cases q:H a with
 | none=>rfl
 | some x =>
  rcases h a x q with ⟨_,h,_⟩ | ⟨B,f,s,p,as,rfl,h⟩
  ·rw [e] at h;contradiction
  ·have:=h.hb;rw [e] at this;contradiction
theorem Real.put (r:Real H H₁) {x:Addr} {y:AObj} (hy:y.isB=false) (hx:H₁ x=Option.none∨∃ z,H x=some z∧z.isB=false):Real (up H x y) (up H₁ x y):=by
 obtain ⟨hr,o,h⟩:=r;have hox:(∃ z,H x=some z∧z.isB=false)→o x=Option.none:=by
  rintro ⟨z,e,hz⟩;rcases h x z e with ⟨_,_,q⟩ | ⟨B,_,_,_,_,rfl,_⟩
  ·exact q
  ·contradiction
 refine ⟨fun a z e=>?_,fun a=>if a=x then Option.none else o a,fun a z e=>?_⟩
 ·by_cases q:a=x
  ·subst q;rw [Zac] at e;obtain rfl:=osi e;exact hy
  ·rw [Zab q] at e;exact hr a z e
 by_cases q:a=x
 ·subst q;rw [Zac] at e;obtain rfl:=osi e;exact .inl ⟨hy,Zac,if_pos rfl⟩
 ·rw [Zab q] at e;rcases h a z e with ⟨h1,h2,h3⟩ | ⟨B,f,s,p,as,rfl,h1⟩
  ·exact .inl ⟨h1,by refine rl (Zab q) ?_;exact h2,(if_neg q).trans h3⟩
  ·refine .inr ⟨B,f,s,p,as,rfl,h1.congr fun c r' z _ hr hc _=>?_⟩;have hr:=ownB_some.mp hr;have hcx:c≠x:=by
    rintro rfl;rcases hx with hx | hx
    ·rw [hx] at hc;contradiction
    ·rw [hox hx] at hr;contradiction
   exact ⟨ownB_some.mpr ((if_neg hcx).trans hr),by refine rl (Zab hcx) ?_;exact hc⟩
theorem Real.less {H':Zaa} (r:Real H H₁) (k:∀ a x,H' a=some x→H a=some x):Real H' H₁:=by
 obtain ⟨hr,o,h⟩:=r;exact ⟨hr,o,fun a x e=>h a x (k a x e)⟩
theorem Real.raw (hr:∀ a x,H a=some x→x.isB=false):Real H H:=⟨hr,fun _=>Option.none,fun a x e=>.inl ⟨hr a x e,e,rfl⟩⟩
theorem Real.unpack (r:Real H H₁) {b:Addr} {B:Bk} (hb:H b=some (.book B)):∃ H₂ o f s p as,Real H₂ H₁∧IsBook o H₂ b f s p as B∧∀ a x,H a=some x→a≠b→H₂ a=some x∧o a=Option.none:=by
 obtain ⟨hr,o,h⟩:=r;rcases h b _ hb with ⟨h1,_⟩ | ⟨B',f,s,p,as,e,h1⟩
 ·contradiction
 cases e;have key:∀ a x,H a=some x→a≠b→ownB o b a=Option.none:=fun a x e q=>by
  cases z:ownB o b a with
  | none=>rfl
  | some r =>
   have z:=ownB_some.mp z;rcases h a x e with ⟨_,_,k⟩ | ⟨B',f',s',p',as',rfl,k⟩
   ·rw [k] at z;contradiction
   ·have:=ownB_some.mp k.ob;rw [this] at z;cases z;exact absurd rfl q
 have hbs:=h1.ob;refine ⟨fun a=>match ownB o b a with | some _=>H₁ a | Option.none=>H a,ownB o b,f,s,p,as,⟨hr,fun a=>match ownB o b a with | some _=>Option.none | Option.none=>o a,fun a x e=>?_⟩,h1.congr fun a r x _ hr hx _=>⟨hr,by simp only [hr];exact hx⟩,fun a x e q=>?_⟩
 ·cases z:ownB o b a with
  | some r=>simp only [z] at e;exact .inl ⟨hr a x e,e,by simp only [z]⟩
  | none =>
   simp only [z] at e;rcases h a x e with ⟨k1,k2,k3⟩ | ⟨B',f',s',p',as',rfl,k⟩
   ·exact .inl ⟨k1,k2,by simp only [z];exact k3⟩
   ·refine .inr ⟨B',f',s',p',as',rfl,k.congr fun c r x _ hc hx _=>⟨?_,hx⟩⟩;have hc:=ownB_some.mp hc;have hab:a≠b:=by rintro rfl;rw [hbs] at z;contradiction
    have hn:ownB o b c=Option.none:=by
     cases w:ownB o b c with
     | none=>rfl
     | some r'=>have w:=ownB_some.mp w;rw [hc] at w;cases w;exact absurd rfl hab
    exact ownB_some.mpr (by simp only [hn];exact hc)
 ·have:=key a x e q;exact ⟨by simp only [this];exact e,this⟩
theorem Real.pack {H₂:Zaa} {o:Addr→Option Role} {b f s p:Addr} {as:List Addr} {B:Bk} (r:Real H₂ H₁) (hb:IsBook o H₂ b f s p as B)
  (k:∀ a x,H a=some x→(a=b∧x = .book B)∨(a≠b∧o a=Option.none∧H₂ a=some x)):Real H H₁:=by
 obtain ⟨hr,oA,h⟩:=r;refine ⟨hr,fun a=>match oA a with | some z=>some z | Option.none=>(o a).map fun r=>(b,r),fun a x e=>?_⟩;rcases k a x e with ⟨rfl,rfl⟩ | ⟨h1,h2,h3⟩
 ·refine .inr ⟨B,f,s,p,as,rfl,hb.congr fun c r x _ hc hx hn=>?_⟩;rcases h c x hx with ⟨_,k1,k2⟩ | ⟨B',_,_,_,_,rfl,_⟩
  ·exact ⟨ownB_some.mpr (by simp only [k2,hc];rfl),k1⟩
  ·contradiction
 ·rcases h a x h3 with ⟨k1,k2,k3⟩ | ⟨B',f',s',p',as',rfl,k1⟩
  ·exact .inl ⟨k1,k2,by simp only [k3,h2];rfl⟩
  ·refine .inr ⟨B',f',s',p',as',rfl,k1.congr fun c r x _ hc hx _=>⟨?_,hx⟩⟩;have hc:=ownB_some.mp hc;exact ownB_some.mpr (by simp only [hc])
end
section
variable {c:Cx} {R R':RR} {H:Zaa} {h h':Heap}
theorem St.stays (S:St c R H h):c.base.StaysIn h:=let ⟨_,s,_⟩:=S;s.stays
theorem St.size (S:St c R H h):c.base.objs.size≤h.objs.size:=let ⟨_,s,_⟩:=S;s.size
theorem St.res (S:St c R H h):∀ b r,R b=some r→c.base.objs.size≤b∧ResAt h b r:=let ⟨_,s,_⟩:=S;s.res
theorem St.orep (S:St c R H h) {a:Addr} {x:AObj} (e:H a=some x) (hb:x.isB=false:=by rfl):(∃ D,ORep c h D a x)∧Abv c a x∧R a=none:=by
 obtain ⟨H₁,s,r⟩:=S;obtain ⟨D,k⟩:=s.rep;exact ⟨⟨D,k.rep a x (r.get e hb)⟩,k.above a x (r.get e hb)⟩
theorem St.there (S:St c R H h) {a:Addr} {x:AObj} (e:H a=some x):∃ ob,h.get? a=some ob:=by
 obtain ⟨H₁,s,r⟩:=S;obtain ⟨D,k⟩:=s.rep;cases q:H₁ a with
 | none=>rw [r.none q] at e;cases e
 | some y=>exact (k.rep a y q).there
theorem St.weaken (S:St c R' H h) (k:∀ b r,R b=some r→R' b=some r):St c R H h:=let ⟨H₁,s,r⟩:=S;⟨H₁,s.weaken k,r⟩
theorem St.keeps (S:St c R H h) (k:∀ b o,h.get? b=some o→h'.get? b=some o) (hs:h.objs.size≤h'.objs.size):St c R H h':=let ⟨H₁,s,r⟩:=S;⟨H₁,s.keeps k hs,r⟩
theorem St.push (S:St c R H h) (o:Obj):St c R H (h.push o):=let ⟨H₁,s,r⟩:=S;⟨H₁,s.push o,r⟩
theorem St.freeR (S:St c R H h) {x:Addr} (hx:h.objs.size≤x):R x=none:=let ⟨_,s,_⟩:=S;s.freeR hx
theorem St.newObj (S:St c R H h) {x:Addr} {o:AObj} (hx:h.objs.size≤x) (k:∀ b ob,h.get? b=some ob→h'.get? b=some ob) (hs:h.objs.size≤h'.objs.size)
  (hni:∀ cl es,o≠.inst cl es) (ho:∀ D,ORep c h' D x o) (hb:o.isB=false:=by rfl):H x=none∧St c R (up H x o) h':=by
 obtain ⟨H₁,s,r⟩:=S;obtain ⟨e,s'⟩:=s.newObj hx k hs hni ho;exact ⟨r.none e,_,s',r.put hb (.inl e)⟩
theorem St.newRes (S:St c R H h) {x:Addr} {r:Res} (hx:h.objs.size≤x) (k:∀ b ob,h.get? b=some ob→h'.get? b=some ob) (hs:h.objs.size≤h'.objs.size)
  (hr:ResAt h' x r):R x=none∧H x=none∧St c (rup R x r) H h':=by
 obtain ⟨H₁,s,rl⟩:=S;obtain ⟨e,e',s'⟩:=s.newRes hx k hs hr;exact ⟨e,rl.none e',_,s',rl⟩
theorem St.setRes (S:St c R H h) {x:Addr} {r r':Res} (hx:R x=some r) (hs:Heap.SameBut x h h') (hr:ResAt h' x r'):St c (rup R x r') H h':=let ⟨H₁,s,rl⟩:=S;⟨H₁,s.setRes hx hs hr,rl⟩
theorem St.setObj (S:St c R H h) {x:Addr} {o o':AObj} (hx:H x=some o) (hni':∀ cl es,o'≠.inst cl es) (hs:Heap.SameBut x h h')
  (ho:∀ D,ORep c h' D x o') (hne:o.isX=false:=by rfl) (hb:o.isB=false:=by rfl) (hb':o'.isB=false:=by rfl):St c R (up H x o') h':=by
 obtain ⟨H₁,s,r⟩:=S;exact ⟨_,s.setObj (r.get hx hb) hni' hs ho hne,r.put hb' (.inr ⟨o,hx,hb⟩)⟩
theorem St.setAttr (S:St c R H h) {x:Addr} {cl:String} {es:List (String×AV)} (hx:H x=some (.inst cl es)) :
  ∃ d ents n,h.get? x=some (instObj (c.ca cl) d)∧h.get? d=some (dictOf ents n)∧Zck es ents∧(es.map (·.1)).Nodup ∧
   ∀ h' ents' n' es',Heap.SameBut d h h'→h'.get? d=some (dictOf ents' n')→Zck es' ents'→(es'.map (·.1)).Nodup→St c R (up H x (.inst cl es')) h':=by
 obtain ⟨H₁,s,r⟩:=S;obtain ⟨d,ents,n,a1,a2,a3,a4,a5⟩:=s.setAttr (r.get hx rfl);exact ⟨d,ents,n,a1,a2,a3,a4,fun h' e' n' es' q1 q2 q3 q4=>⟨_,a5 h' e' n' es' q1 q2 q3 q4,r.put rfl (.inr ⟨_,hx,rfl⟩)⟩⟩
theorem St.newInst (S:St c R H h) {cl:String}:H (h.objs.size+1)=none∧St c R (up H (h.objs.size+1) (.inst cl [])) ((h.push emptyDict).push (instObj (c.ca cl) h.objs.size)):=by
 obtain ⟨H₁,s,r⟩:=S;obtain ⟨e,s'⟩:=s.newInst (cl:=cl);exact ⟨r.none e,_,s',r.put rfl (.inl e)⟩
theorem St.bookAttr (S:St c R H h) {x:Addr} {B:Bk} (hx:H x=some (.book B)):∃ f s p,∃ d ents n,h.get? x=some (instObj (c.ca "Book") d)∧h.get? d=some (dictOf ents n)∧Zck [("day",.int B.day),("free",.ref f),("aside",.ref s),("pacts",.ref p)] ents:=by
 obtain ⟨H₁,s,r⟩:=S;obtain ⟨_,o,k⟩:=r;rcases k x _ hx with ⟨k,_⟩ | ⟨B',f,s',p,as,e,k⟩
 ·contradiction
 cases e;obtain ⟨d,ents,n,a1,a2,a3,_⟩:=s.setAttr k.hb;exact ⟨f,s',p,d,ents,n,a1,a2,a3⟩
end
end Mine
end
section
namespace Mine
structure Cx.Ok (c:Cx) (mg mb:Str→Option Value):Prop where
 kin:c.K.In c.base
 g:c.base.Ns mainGlobals mg
 b:c.base.Ns builtinsNs mb
 nolimit:c.base.NoLimit
 builtins:∀ x:Str,x≠"__name__"→mb x=bootBuiltins x
 seer:c.base.NoSeer
 tree:c.prog.given.tree=none
 top:∃ p loose,TopRead p loose mg mb c.base
structure Ev (g:Gx) (A:Around) (R:RR) (e:Env) (l:List Env):Prop where
 aok:AOk 4 g.n g.md A (e::l)
 stk:Stk R (e::l)
inductive TQi (c:Cx) (R:RR) (s₀:Shared) (Q:AV→Zaa→Prop) (v:Value) (s':Shared):Prop
 | mk (av:AV) (H':Zaa) (hv:VR av v) (S:St c R H' s'.heap) (m:Sm s₀ s') (q:Q av H'):TQi c R s₀ Q v s'
def TQ (g:Gx) (R:RR) (s₀:Shared) (Q:AV→Zaa→Prop) (v:Value) (s':Shared):Prop:=TQi g.c R s₀ Q v s'
inductive TBi (c:Cx) (R:RR) (s₀:Shared) (Q:Bool→Zaa→Prop) (b:Bool) (s':Shared):Prop
 | mk (H':Zaa) (S:St c R H' s'.heap) (m:Sm s₀ s') (q:Q b H'):TBi c R s₀ Q b s'
def TB (g:Gx) (R:RR) (s₀:Shared) (Q:Bool→Zaa→Prop) (b:Bool) (s':Shared):Prop:=TBi g.c R s₀ Q b s'
inductive TEi (c:Cx) (R:RR) (s₀:Shared) (E:String→Zaa→Prop) (e:Value) (s':Shared):Prop
 | mk (a:Addr) (cl:String) (H':Zaa) (h:e = .ref a) (X:ExcSt c R H' a cl .none s'.heap) (m:Sm s₀ s') (q:E cl H'):TEi c R s₀ E e s'
def TE (g:Gx) (R:RR) (s₀:Shared) (E:String→Zaa→Prop) (e:Value) (s':Shared):Prop:=TEi g.c R s₀ E e s'
theorem Sm.step {s₀ s:Shared} (x:Sm s₀ s) (h:Heap) (tk:Nat):Sm s₀ { s with heap:=h,toks:=tk }:=x.trans ⟨h,tk,rfl⟩
theorem Sm.toks {s₀ s:Shared} (x:Sm s₀ s) (tk:Nat):Sm s₀ { s with toks:=tk }:=x.trans ⟨s.heap,tk,rfl⟩
theorem Sm.heap {s₀ s:Shared} (x:Sm s₀ s) (h:Heap):Sm s₀ { s with heap:=h }:=x.trans ⟨h,s.toks,rfl⟩
section
variable {g:Gx} {A:Around} {R:RR} {s₀ s:Shared} {H:Zaa} {E:Value→Shared→Prop} {Q:AV→Zaa→Prop}
theorem TQ.pure {a:AV} {v:Value} (hv:VR a v) (S:St g.c R H s.heap) (m:Sm s₀ s) (q:Q a H):TQ g R s₀ Q v s:=⟨a,H,hv,S,m,q⟩
theorem TQ.toks {a:AV} {v:Value} {tk:Nat} (hv:VR a v) (S:St g.c R H s.heap) (m:Sm s₀ s) (q:Q a H):TQ g R s₀ Q v { s with toks:=tk }:=⟨a,H,hv,S,m.toks tk,q⟩
theorem Zbe {a:Addr} {xs:List AV} (S:St g.c R H s.heap) (e:H a=some (.list xs)):∃ vs n,s.heap.get? a=some (listOf (vs:List Value).toArray n)∧VRs xs vs∧s.heap.IsList a vs.toArray:=by
 obtain ⟨⟨D,vs,n,h1,h2⟩,_⟩:=S.orep e;exact ⟨vs,n,h1,h2,_,h1,rfl,n,rfl⟩
theorem Zcz {a:Addr} {xs:List AV} (S:St g.c R H s.heap) (e:H a=some (.tuple xs)):∃ vs n,s.heap.get? a=some { cls:=.type "tuple",data:=.seq (vs:List Value).toArray n }∧VRs xs vs∧IsTup s.heap a vs.toArray:=by
 obtain ⟨⟨D,vs,n,h1,h2⟩,_⟩:=S.orep e;exact ⟨vs,n,h1,h2,_,h1,rfl,n,rfl⟩
theorem Zbu {a:Addr} {ep:Nat} {es:List (Str×AV)} (S:St g.c R H s.heap) (e:H a=some (.dict ep es)):∃ kvs,s.heap.DictAt (strKind g.c.prog g.c.w) a kvs ep∧DRs es kvs:=by
 obtain ⟨⟨D,r⟩,_⟩:=S.orep e;exact r
theorem Zut {a:Addr} {o:AObj} (S:St g.c R H s.heap) (e:H a=some o) (hne:o.isX=false:=by rfl) (hb:o.isB=false:=by rfl):g.c.base.objs.size≤a:=(S.orep e hb).2.1.2 hne
theorem DRs.length {es kvs} (h:DRs es kvs):kvs.length=es.length:=by
 induction h with
 | nil=>rfl
 | cons _ _ _ ih=>simp [ih]
set_option tactic.hygienic true in
theorem DRs.look {es kvs} (h:DRs es kvs) (k:Str):OVR (Zb8 es k) (valueAt kvs k):=by
 induction h with
 | nil=>exact .none
 | cons hk hv _ ih =>
  rename_i k' a v as vs _;dsimp only [Zb8,valueAt,find?_cons] at ih ⊢;by_cases q:k'=k
  ·simp [q];exact .some hv
  ·simp [q];exact ih
theorem DRs.vals {es kvs} (h:DRs es kvs):VRs (es.map (·.2)) (kvs.map (·.2)):=by
 induction h with
 | nil=>exact .nil
 | cons _ hv _ ih=>exact .cons hv ih
theorem OVR.isSome {a v} (h:OVR a v):v.isSome=a.isSome:=by cases h<;>rfl
theorem Zey {xs:List AV} {vs:List Value} {n:Nat} {h':Heap} {x:Addr} {tk:Nat} (S:St g.c R H s.heap) (m:Sm s₀ s) (hv:VRs xs vs) (hx:s.heap.objs.size≤x)
  (k:∀ b ob,s.heap.get? b=some ob→h'.get? b=some ob) (hs:s.heap.objs.size≤h'.objs.size) (ho:h'.get? x=some (listOf vs.toArray n))
  (q:∀ z,H z=none→Q (.ref z) (up H z (.list xs))):TQ g R s₀ Q (.ref x) { s with heap:=h',toks:=tk }:=by
 obtain ⟨e,S'⟩:=S.newObj (o:=.list xs) hx k hs (by intro _ _ z;contradiction) (fun D=>⟨vs,n,ho,hv⟩);exact ⟨.ref x,_,.ref x,S',m.step _ _,q x e⟩
theorem Zjm {v:Value} {a:AV} {Qb:Bool→Zaa→Prop} (hv:VR a v) (S:St g.c R H s.heap) (m:Sm s₀ s) (q:Zbb a H (fun b=>Qb b H)) :
  wpAny (model g.c.prog g.c.w) A (truthy v) (TB g R s₀ Qb) E s:=by
 cases hv with
 | none=>exact truthy_none ⟨H,S,m,q⟩
 | bool b=>exact wpAny_truthy_bool ⟨H,S,m,q⟩
 | int i t=>exact truthy_int ⟨H,S,m,q⟩
 | str x t hx =>
  refine P.truthy_str (by have:=q.1;omega) ⟨H,S,m.toks _,?_⟩;have:((x.length:Int) != 0)=(x.length != 0):=by
   cases x.length with
   | zero=>rfl
   | succ n=>simp;omega
  refine rl this ?_;exact q.2
 | ref p =>
  obtain ⟨o,e⟩:∃ o,H p=o:=⟨_,rfl⟩
  rw [Zxz,e] at q;cases o with
  | none=>exact q.elim
  | some o =>
  cases o with
  | list xs =>
   obtain ⟨vs,n,h1,h2,h3⟩:=Zbe S e;have hl:=h2.length;refine wpAny_truthy_list h3 (by simp only [size_toArray];have:=q.1;omega) ⟨H,S,m.toks _,?_⟩;have:(vs.toArray.isEmpty)=xs.isEmpty:=by cases h2<;>rfl
   refine rl this ?_;exact q.2
  | tuple xs =>
   obtain ⟨vs,n,h1,h2,h3⟩:=Zcz S e;have hl:=h2.length;refine truthy_tuple h3 (by simp only [size_toArray];have:=q.1;omega) ⟨H,S,m.toks _,?_⟩;have:(vs.toArray.isEmpty)=xs.isEmpty:=by cases h2<;>rfl
   refine rl this ?_;exact q.2
  | _=>exact q.elim
theorem Zkc {x y:Str} (hx:PyData.strOk x=true) (hy:PyData.strOk y=true):PyData.strOk (x++y)=true:=by
 show (x.cps++y.cps).all _=true;refine rl Array.all_append ?_;exact Bool.and_eq_true_iff.mpr ⟨hx,hy⟩
theorem Zhh {x:Str} (hx:PyData.strOk x=true) {ch:Nat} (hc:ch∈x.cps):ch<0x110000:=by
 have:=(Array.all_eq_true_iff_forall_mem.mp hx) ch hc;simpa using this
theorem Zjj {l:List Nat} (h:∀ ch∈l,ch<0x110000):PyData.strOk ⟨l.toArray⟩=true:=by
 show l.toArray.all _=true;rw [Array.all_eq_true_iff_forall_mem];intro ch hc;simpa using h ch (by simpa using hc)
theorem Zdv {as:List AV} {vs:List Value} {k:AV→Prop} {m:List Value→Prop} (hv:VRs as vs) (q:onV1 as k) (f:∀ a v,VR a v→k a→m [v]):m vs:=by
 cases hv with
 | nil=>exact q.elim
 | cons h1 hr=>cases hr with
  | nil=>exact f _ _ h1 q
  | cons=>exact q.elim
theorem Zxm {o:AV} {u:Value} {k:Addr→List AV→Prop} {m:Value→Prop} (ho:VR o u) (q:atL o H k) (f:∀ p xs,H p=some (.list xs)→k p xs→m (.ref p)):m u:=by
 cases ho with
 | ref p =>
  obtain ⟨o,e⟩:∃ o,H p=o:=⟨_,rfl⟩
  dsimp only [atL] at q;rw [e] at q;cases o with
  | none=>exact q.elim
  | some o=>cases o with
   | list xs=>exact f p xs e q
   | _=>exact q.elim
 | _=>exact q.elim
theorem Zr8 {o:AV} {u:Value} {k:Addr→List (Str×AV)→Prop} {m:Value→Prop} (ho:VR o u) (q:atD o H k) (f:∀ p ep es,H p=some (.dict ep es)→k p es→m (.ref p)):m u:=by
 cases ho with
 | ref p =>
  obtain ⟨o,e⟩:∃ o,H p=o:=⟨_,rfl⟩
  dsimp only [atD] at q;rw [e] at q;cases o with
  | none=>exact q.elim
  | some o=>cases o with
   | dict ep es=>exact f p ep es e q
   | _=>exact q.elim
 | _=>exact q.elim
theorem Zdk {a b:AV} {u v:Value} {P:Int→Int→Prop} {m:Value→Value→Prop} (hu:VR a u) (hv:VR b v) (q:wii a b P) (f:∀ x y t t',P x y→m (.int x t) (.int y t')):m u v:=by
 cases hu with
 | int x t=>cases hv with
  | int y t'=>exact f x y t t' q
  | _=>exact q.elim
 | _=>exact q.elim
set_option tactic.hygienic true in
theorem Zye {x y:Str} {t u:Tok} (hx:PyData.strOk x=true) (hy:PyData.strOk y=true) (S:St g.c R H s.heap) (m:Sm s₀ s) (q1:x.length+y.length≤sizeLine) (q2:Q (.str (x++y)) H) :
  wpAny (model g.c.prog g.c.w) A (binaryOp .Add (.str x t) (.str y u)) (TQ g R s₀ Q) E s:=by
 refine P.add_str ?_;have e1:∀ z:Str,z.length=0→z=Str.empty:=fun z hz=>by
  obtain ⟨⟨l⟩⟩:=z;cases l with
  | nil=>rfl
  | cons=>contradiction
 split
 ·rename_i hz;have hz':=e1 _ (by simpa using hz);rw [hz'] at q2;refine TQ.pure (.str _ u hy) S m ?_;have e2:∀ y:Str,Str.empty++y=y:=fun y=>by show Str.append _ _=_;simp [Str.append,Str.empty]
  rw [e2] at q2;exact q2
 ·split
  ·rename_i _ hz;have hz':=e1 _ (by simpa using hz);rw [hz'] at q2;refine TQ.pure (.str _ t hx) S m ?_;have e2:∀ x:Str,x++Str.empty=x:=fun x=>by show Str.append _ _=_;simp [Str.append,Str.empty]
   rw [e2] at q2;exact q2
  ·refine ⟨?_,TQ.toks (.str _ _ (Zkc hx hy)) S m q2⟩;refine rl (Str.length_append ..) ?_;exact q1
theorem Zyf {x y:Addr} (S:St g.c R H s.heap) (m:Sm s₀ s) (q:wbin .Add (.ref x) (.ref y) Q H) :
  wpAny (model g.c.prog g.c.w) A (binaryOp .Add (.ref x) (.ref y)) (TQ g R s₀ Q) E s:=by
 obtain ⟨o,e1⟩:∃ o,H x=o:=⟨_,rfl⟩
 obtain ⟨o',e2⟩:∃ o,H y=o:=⟨_,rfl⟩
 replace q:(match H x,H y with
   | some (.list xs),some (.list ys)=>xs.length+ys.length≤sizeLine∧∀ z,H z=none→Q (.ref z) (up H z (.list (xs++ys)))
   | _,_=>False):=q
 rw [e1,e2] at q;cases o with
 | none=>exact q.elim
 | some o =>
 cases o with
 | list xs=>cases o' with
  | none=>exact q.elim
  | some o'=>cases o' with
   | list ys =>
    obtain ⟨vs,n,h1,h2,h3⟩:=Zbe S e1;obtain ⟨ws,n',k1,k2,k3⟩:=Zbe S e2;refine P.add_list (n:=n) (n2:=n') h1 k1 ?_ (by have:=h2.length;have:=k2.length;have:=q.1;simp only [size_toArray];lia);have hvw:=h2.append k2;refine Zey (n:=0) (vs:=vs++ws) S m hvw (le_refl _) (fun _ _ e=>Heap.get?_push_of_some _ e) (by refine rl (Heap.size_push ..) ?_;exact le_succ _) ?_ q.2;refine rl (Heap.get?_push_size _ rfl) ?_;simp
   | _=>exact q.elim
 | _=>exact q.elim
theorem Z00 {op:Operator} {a b:AV} {u v:Value} {e₀:Env} {l₀:List Env} {mg mb:Str→Option Value} (C:g.c.Ok mg mb) (V:Ev g A R e₀ l₀) (hu:VR a u) (hv:VR b v) (S:St g.c R H s.heap) (m:Sm s₀ s) (q:wbin op a b Q H) :
  wpAny (model g.c.prog g.c.w) A (binaryOp op u v) (TQ g R s₀ Q) E s:=by
 cases op with
 | Add=>cases hu with
  | int x t=>cases hv with
   | int y t'=>exact add_int (TQ.toks (.int _ _) S m q)
   | _=>exact q.elim
  | str x t hx=>cases hv with
   | str y t' hy=>exact Zye hx hy S m q.1 q.2
   | _=>exact q.elim
  | ref p=>cases hv with
   | ref p'=>exact Zyf S m q
   | _=>exact q.elim
  | _=>exact q.elim
 | Sub=>exact Zdk (m:=fun u v=>wpAny _ A (binaryOp .Sub u v) (TQ g R s₀ Q) E s) hu hv q fun _ _ _ _ q=>sub_int (TQ.toks (.int _ _) S m q)
 | Mult=>exact Zdk (m:=fun u v=>wpAny _ A (binaryOp .Mult u v) (TQ g R s₀ Q) E s) hu hv q fun _ _ _ _ q=>mul_int (TQ.toks (.int _ _) S m q.2) q.1
 | FloorDiv =>
  refine Zdk (m:=fun u v=>wpAny _ A (binaryOp .FloorDiv u v) (TQ g R s₀ Q) E s) hu hv q fun _ _ _ _ q=>?_;have F0:=V.stk e₀ (mem_cons_self ..);refine floordiv_int q.1 (TQ.toks (.int _ _) S m q.2) (.inr (PySem.PylongRoom.of (C.nolimit.keeps S.stays) ?_ (PySem.SeerAt.of (env:=e₀) (l:=l₀) (C.seer.keeps S.stays) C.tree V.aok.frames F0.gen F0.co F0.blt F0.glob)));have:=V.aok.depth;have e:Builtin.pylongFrames≤100:=by decide
  lia
 | Mod=>exact Zdk (m:=fun u v=>wpAny _ A (binaryOp .Mod u v) (TQ g R s₀ Q) E s) hu hv q fun _ _ _ _ q=>mod_int' q.1 (TQ.toks (.int _ _) S m q.2)
 | Pow =>
  refine Zdk (m:=fun u v=>wpAny _ A (binaryOp .Pow u v) (TQ g R s₀ Q) E s) hu hv q fun x y _ _ q=>?_;obtain ⟨⟨q1,q2,q3⟩,q4⟩:=q;refine AutoIntOps.pow_4 (by lia) (by simp;lia) (by simp;lia) (by simp;lia) (by refine rl q3 ?_;simp) (show (Made.int (x ^ y.toNat)).post _ s from TQ.toks (.int _ _) S m q4)
 | _=>exact q.elim
theorem RDs.len {H:Zaa} {as:List AV}:∀ {ds:List PyData},RDs H as ds→as.length=ds.length:=by
 induction as with
 | nil=>intro ds r;cases r;rfl
 | cons a as ih=>intro ds r;cases r with | cons _ r=>exact congrArg Nat.succ (ih r)
abbrev Rds (s:Shared) (v:Value) (d:PyData):Prop:=(∃ as,Reads s.heap v d as)∧(Zmh d=true→PyData.canLay0 d=true)
abbrev RdsA (s:Shared) (vs:List Value) (ds:List PyData):Prop:=(∃ bs,ReadsAll s.heap vs ds bs)∧(Zh8 ds=true→PyData.canLayAll0 ds=true)
theorem Zwa (S:St g.c R H s.heap) {a:Addr} {xs:List AV} {ds:List PyData} (e:H a=some (.list xs)) (ih:∀ {vs},VRs xs vs→RdsA s vs ds):Rds s (.ref a) (.list ds):=by
 obtain ⟨vs,n,h1,h2,h3⟩:=Zbe S e;obtain ⟨⟨as,ih⟩,cl⟩:=ih h2;exact ⟨⟨_,.list h1 rfl rfl ih⟩,cl⟩
theorem Zs7 (S:St g.c R H s.heap) {a:Addr} {xs:List AV} {ds:List PyData} (e:H a=some (.tuple xs)) (ih:∀ {vs},VRs xs vs→RdsA s vs ds):Rds s (.ref a) (.tuple ds):=by
 obtain ⟨vs,n,h1,h2,h3⟩:=Zcz S e;obtain ⟨⟨as,ih⟩,cl⟩:=ih h2;exact ⟨⟨_,.tuple h1 rfl rfl ih⟩,cl⟩
theorem Zwb {a:AV} {d:PyData} {as:List AV} {ds:List PyData} (h:∀ {v},VR a v→Rds s v d) (ih:∀ {vs},VRs as vs→RdsA s vs ds) {vs:List Value} (hv:VRs (a::as) vs):RdsA s vs (d::ds):=by
 cases hv with
 | cons v vs =>
  obtain ⟨⟨a1,h1⟩,c1⟩:=h v;obtain ⟨⟨a2,h2⟩,c2⟩:=ih vs;refine ⟨⟨_,.cons h1 h2⟩,fun f=>?_⟩;have f:=Bool.and_eq_true_iff.mp f;exact Bool.and_eq_true_iff.mpr ⟨c1 f.1,c2 f.2⟩
theorem Zg0 (S:St g.c R H s.heap) {a:AV} {d:PyData} {v:Value} (r:RD H a d):VR a v→Rds s v d :=
 @RD.rec H (fun a d _=>∀ {v},VR a v→Rds s v d) (fun as ds _=>∀ {vs},VRs as vs→RdsA s vs ds)
  (fun hv=>by cases hv;exact ⟨⟨[],.none⟩,fun _=>rfl⟩)
  (fun b _ hv=>by cases hv;exact ⟨⟨[],.bool b⟩,fun _=>rfl⟩)
  (fun i _ hv=>by cases hv with | int _ t=>exact ⟨⟨[],.int i t⟩,fun _=>rfl⟩)
  (fun x _ hv=>by cases hv with | str _ t h=>exact ⟨⟨[],.str x t⟩,fun _=>h⟩)
  (fun e _ ih _ hv=>by cases hv;exact Zwa S e ih)
  (fun e _ ih _ hv=>by cases hv;exact Zs7 S e ih)
  (fun hv=>by cases hv;exact ⟨⟨[],.nil⟩,fun _=>rfl⟩)
  (fun _ _ h ih _ hv=>Zwb h ih hv) a d r v
theorem Zej {d:PyData} (h:okD d) (c:Zmh d=true→PyData.canLay0 d=true):shaped d=true:=by
 unfold shaped;refine rl (c h.1) ?_;simpa using h.2
theorem Zi5 {mg mb:Str→Option Value} {p:Addr} {o:AObj} (C:g.c.Ok mg mb) (S:St g.c R H s.heap) (e:H p=some o) (hne:o.isX=false:=by rfl) (hb:o.isB=false:=by rfl):(p==sysModules)=false:=by
 have h1:=leN (Zut S e hne hb);obtain ⟨mc,hc,_⟩:=C.nolimit;have h2:=hc.lt;have h3:@LT.lt Nat _ sysModules cStatics:=by decide
 have h4:@LT.lt Nat _ cStatics g.c.base.objs.size:=h2;have:@LT.lt Nat _ sysModules p:=by lia
 exact beq_eq_false_iff_ne.mpr (ne_of_gt this)
noncomputable def eqOp (ne:Bool):CmpOp:=if ne then .NotEq else .Eq
theorem Zyd {ne:Bool} {a b:AV} {u v:Value} (un:A.units+64<cLine) (hu:VR a u) (hv:VR b v) (S:St g.c R H s.heap) (m:Sm s₀ s) {da db:PyData} (ra:RD H a da) (rb:RD H b db) (sa:okD da) (sb:okD db) (qq:Q (.bool (nt ne (PyData.eqv da db))) H) :
  wpAny (model g.c.prog g.c.w) A (compareOp (eqOp ne) u v) (TQ g R s₀ Q) E s:=by
 obtain ⟨⟨as,ra'⟩,ca⟩:=Zg0 S ra hu;obtain ⟨⟨bs,rb'⟩,cb⟩:=Zg0 S rb hv;cases ne with
 | true=>exact ne_dataH ra' rb' (Zej sa ca) (Zej sb cb) un (TQ.pure (.bool _) S m qq)
 | false=>exact eq_dataH ra' rb' (Zej sa ca) (Zej sb cb) un (TQ.pure (.bool _) S m qq)
def weqO (ne:Bool) (a b:AV) (Q:AV→Zaa→Prop) (H:Zaa):Prop:=∃ da db,RD H a da∧RD H b db∧okD da∧okD db∧Q (.bool (nt ne (PyData.eqv da db))) H
theorem Zv9 {ne:Bool} {a b:AV} {u v:Value} {mg mb:Str→Option Value} (C:g.c.Ok mg mb) (un:A.units+64<cLine) (un':A.in1.units+64<cLine) (hu:VR a u) (hv:VR b v) (S:St g.c R H s.heap) (m:Sm s₀ s) (q:weqO ne a b Q H) :
  wpAny (model g.c.prog g.c.w) A (compareOp (eqOp ne) u v) (TQ g R s₀ Q) E s:=by
 obtain ⟨da,db,ra,rb,sa,sb,qq⟩:=q;exact Zyd un hu hv S m ra rb sa sb qq
theorem s_eq {ne:Bool} {a b:AV} {u v:Value} {e₀:Env} {l₀:List Env} {mg mb:Str→Option Value} (C:g.c.Ok mg mb) (V:Ev g A R e₀ l₀) (hu:VR a u) (hv:VR b v) (S:St g.c R H s.heap) (m:Sm s₀ s) (q:weq ne a b Q H) :
  wpAny (model g.c.prog g.c.w) A (compareOp (eqOp ne) u v) (TQ g R s₀ Q) E s:=by
 have un:A.units+64<cLine:=by have:=V.aok.units;lia
 have un':A.in1.units+64<cLine:=by have:=V.aok.units;dsimp only [Around.in1];lia
 cases a with
 | int x=>cases b with
  | int y =>
   cases hu;cases hv;cases ne with
   | false=>exact eq_int (TQ.pure (.bool _) S m q)
   | true=>exact ne_int (TQ.pure (.bool _) S m q)
  | _=>exact Zv9 C un un' hu hv S m q
 | str x=>cases b with
  | str y=>exact Zyd (da:=.str x) (db:=.str y) un hu hv S m (.str x) (.str y) ⟨rfl,zero_le _⟩ ⟨rfl,zero_le _⟩ q
  | _=>exact Zv9 C un un' hu hv S m q
 | _=>exact Zv9 C un un' hu hv S m q
theorem Zqn (ch:Nat) (x:Str):(!(Builtin.Str.occurrences x ⟨#[ch]⟩ 0 x.length 1).isEmpty)=x.cps.toList.contains ch:=by
 refine rl (StrLaws.found_one ..) ?_;simp
theorem s_in {no:Bool} {a b:AV} {u v:Value} {e₀:Env} {l₀:List Env} {mg mb:Str→Option Value} (C:g.c.Ok mg mb) (V:Ev g A R e₀ l₀) (hu:VR a u) (hv:VR b v) (S:St g.c R H s.heap) (m:Sm s₀ s) (q:win no a b Q H) :
  wpAny (model g.c.prog g.c.w) A (compareOp (if no then .NotIn else .In) u v) (TQ g R s₀ Q) E s:=by
 have un:A.units+1+64<cLine:=by have:=V.aok.units;lia
 cases hv with
 | ref p =>
  obtain ⟨o,e⟩:∃ o,H p=o:=⟨_,rfl⟩
  rw [Zgt,e] at q;cases o with
  | none=>exact q.elim
  | some o =>
  cases o with
  | list ys =>
   obtain ⟨d,ds,r1,r2,q1,q2,qq⟩:=q;obtain ⟨⟨as,r1'⟩,c1⟩:=Zg0 S r1 hu;obtain ⟨⟨bs,r2'⟩,c2⟩:=Zg0 S (.list e r2) (.ref p);have dd:d.depth≤64:=q1.2;replace q1:=Zej q1 c1;replace q2:PyData.canLayAll0 ds=true:=c2 q2;cases no with
   | true=>exact notIn_list_reads r2' r1' q2 (canLay_of_shaped q1) (by lia) (TQ.pure (.bool _) S m (by exact qq))
   | false=>exact in_list_reads r2' r1' q2 (canLay_of_shaped q1) (by lia) (TQ.pure (.bool _) S m (by exact qq))
  | dict ep es=>cases hu with
   | str k t hk =>
    obtain ⟨kvs,hd,hr⟩:=Zbu S e;have hds:(p==sysModules)=false:=Zi5 C S e;have ho:=(hr.look k).isSome;cases no with
    | true =>
     refine wpAny_notIn_of (strKind_is _ _ k t) hds hd.dictOf.mapOf (TQ.toks (.bool _) S m ?_);refine rl ho ?_;exact q
    | false =>
     refine wpAny_in_of (strKind_is _ _ k t) hds hd.dictOf.mapOf (TQ.toks (.bool _) S m ?_);refine rl ho ?_;exact q
   | _=>exact q.elim
  | _=>exact q.elim
 | str y t hy=>cases hu with
  | str x t' hx =>
   obtain ⟨ch,rfl,qq⟩:=q;cases no with
   | true =>
    refine notIn_str (TQ.pure (.bool _) S m ?_);refine rl (Zqn ..) ?_;exact qq
   | false =>
    refine in_str (TQ.pure (.bool _) S m ?_);refine rl (Zqn ..) ?_;exact qq
  | _=>exact q.elim
 | _=>exact q.elim
end
end Mine
end
section
namespace Mine
section
variable {g:Gx} {A:Around} {R:RR} {s₀ s:Shared} {H:Zaa} {E:Value→Shared→Prop} {Q:AV→Zaa→Prop}
set_option tactic.hygienic true in
theorem Zh5 {a:AV} {u:Value} (hu:VR a u) (c:Bool):isSame u (.bool c)=pure (a==.bool c):=by
 cases hu<;>first | rfl | (rename_i b;cases c<;>cases b<;>rfl)
theorem Zgs {a:AV} {u:Value} (hu:VR a u):isSame u .none=pure (a==.none):=by
 cases hu<;>rfl
theorem Zn4 {op:CmpOp} {a b:AV} {u v:Value} {e₀:Env} {l₀:List Env} {mg mb:Str→Option Value} (C:g.c.Ok mg mb) (V:Ev g A R e₀ l₀) (hu:VR a u) (hv:VR b v) (S:St g.c R H s.heap) (m:Sm s₀ s)
  (q:wcmp op a b Q H):wpAny (model g.c.prog g.c.w) A (compareOp op u v) (TQ g R s₀ Q) E s:=by
 cases op with
 | Eq=>exact s_eq (ne:=false) C V hu hv S m q
 | NotEq=>exact s_eq (ne:=true) C V hu hv S m q
 | In=>exact s_in (no:=false) C V hu hv S m q
 | NotIn=>exact s_in (no:=true) C V hu hv S m q
 | Is =>
  show wpAny _ _ (do return Value.bool (← isSame u v):Sem Value) _ _ _;cases hv with
  | none=>refine rl (Zgs hu) ?_;exact wpAny_bind (wpAny_pure (wpAny_pure (TQ.pure (.bool _) S m q)))
  | bool b=>refine rl (Zh5 hu ..) ?_;exact wpAny_bind (wpAny_pure (wpAny_pure (TQ.pure (.bool _) S m q)))
  | _=>exact q.elim
 | IsNot =>
  show wpAny _ _ (do return Value.bool (!(← isSame u v)):Sem Value) _ _ _;cases hv with
  | none=>refine rl (Zgs hu) ?_;exact wpAny_bind (wpAny_pure (wpAny_pure (TQ.pure (.bool _) S m q)))
  | bool b=>refine rl (Zh5 hu ..) ?_;exact wpAny_bind (wpAny_pure (wpAny_pure (TQ.pure (.bool _) S m q)))
  | _=>exact q.elim
 | Lt=>exact Zdk (m:=fun u v=>wpAny _ A (compareOp .Lt u v) (TQ g R s₀ Q) E s) hu hv q fun _ _ _ _ q=>lt_int (TQ.pure (.bool _) S m q)
 | LtE=>exact Zdk (m:=fun u v=>wpAny _ A (compareOp .LtE u v) (TQ g R s₀ Q) E s) hu hv q fun _ _ _ _ q=>le_int (TQ.pure (.bool _) S m q)
 | Gt=>exact Zdk (m:=fun u v=>wpAny _ A (compareOp .Gt u v) (TQ g R s₀ Q) E s) hu hv q fun _ _ _ _ q=>gt_int (TQ.pure (.bool _) S m q)
 | GtE=>exact Zdk (m:=fun u v=>wpAny _ A (compareOp .GtE u v) (TQ g R s₀ Q) E s) hu hv q fun _ _ _ _ q=>ge_int (TQ.pure (.bool _) S m q)
theorem Zkf {n:Nat} {i:Int} {j:Nat} (h:Zf5 n i=some j):seqIndex? i n=some j:=by
 unfold Zf5 at h;unfold seqIndex?;split at h
 ·split at h
  ·obtain rfl:=osi h;have:¬ i<0:=by omega
   simp only [this,if_false];exact rl (if_pos (by simp;omega)) rfl
  ·contradiction
 ·split at h
  ·obtain rfl:=osi h;have:i<0:=by omega
   simp only [this,if_true];exact rl (if_pos (by simp;omega)) rfl
  ·contradiction
theorem Zs8 {n:Nat} {i:Int} {j:Nat} (h:Zf5 n i=some j):j<n∧(0≤i→j=i.toNat)∧(i<0→j=(i+n).toNat∧-(n:Int)≤i):=by
 unfold Zf5 at h;split at h
 ·split at h
  ·obtain rfl:=osi h;omega
  ·contradiction
 ·split at h
  ·obtain rfl:=osi h;omega
  ·contradiction
theorem Z0u {value slice:Expr} {a i:AV} {u v:Value} {mg mb:Str→Option Value} (_C:g.c.Ok mg mb) (hu:VR a u) (hv:VR i v) (S:St g.c R H s.heap) (m:Sm s₀ s) (q:wsub a i Q H)
  (hs:∀ o j,subscripted slice false o j=operate [o,j] (getItem o j)):wpAny (model g.c.prog g.c.w) A (subscriptTail value slice u v) (TQ g R s₀ Q) E s:=by
 cases hu with
 | ref p=>
  obtain ⟨o,e⟩:∃ o,H p=o:=⟨_,rfl⟩
  cases hv with
  | int i t =>
   rw [Zfg,e] at q;cases o with
   | none=>exact q.elim
   | some o =>
   cases o with
   | list xs =>
    obtain ⟨j,x,h1,h2,h3,h4,qq⟩:=q;obtain ⟨vs,n,k1,k2,k3⟩:=Zbe S e;obtain ⟨y,y1,y2⟩:=k2.get h4;obtain ⟨p1,p2,p3⟩:=Zs8 h1;rw [k2.length] at p3;refine tail_any k3.typeIs slot_list_getitem.lookup ?_ (hs _ _);by_cases hz:0≤i
    ·exact wpAny_getItem_list k3 hz h2 (by refine rl (Eq.symm (p2 hz)) ?_;simpa using y1) (TQ.pure y2 S m qq)
    ·have hz:=Int.not_le.mp hz;obtain ⟨p4,p5⟩:=p3 hz;exact wpAny_getItem_list_neg k3 hz (by simpa using p5) h3 (by simp only [size_toArray];refine rl p4.symm ?_;simpa using y1) (TQ.pure y2 S m qq)
   | tuple xs =>
    obtain ⟨j,x,h1,h2,h3,h4,qq⟩:=q;obtain ⟨vs,n,k1,k2,k3⟩:=Zcz S e;obtain ⟨y,y1,y2⟩:=k2.get h4;refine tail_any k3.typeIs slot_tuple_getitem.lookup ?_ (hs _ _);exact getItem_tuple k3 h3 h2 (by simp only [size_toArray];refine rl k2.length.symm ?_;exact Zkf h1) (by simpa using y1) (TQ.pure y2 S m qq)
   | script ns =>
    obtain ⟨h1,h2,nn,h3,qq⟩:=q;obtain ⟨⟨D,vs,n,k1,k2⟩,_⟩:=S.orep e;obtain ⟨y,y1,y2⟩:=k2.get (i:=i.toNat) (a:=.int nn) (by refine rl (getElem?_map) (rl h3 ?_);rfl);have k3:s.heap.IsList _ vs.toArray:=⟨_,k1,rfl,_,rfl⟩
    refine tail_any k3.typeIs slot_list_getitem.lookup ?_ (hs _ _);exact wpAny_getItem_list k3 h1 h2 (by simpa using y1) (TQ.pure y2 S m qq)
   | _=>exact q.elim
  | str k t hk =>
   rw [Ze1,e] at q;cases o with
   | none=>exact q.elim
   | some o =>
   cases o with
   | dict ep es =>
    obtain ⟨x,hx,qq⟩:=q;obtain ⟨kvs,hd,hr⟩:=Zbu S e;have ho:=hr.look k;rw [hx] at ho;generalize hval:valueAt kvs k=y at ho;cases ho with
    | some hv =>
     refine tail_any hd.dictOf.typeIs slot_dict_getitem.lookup ?_ (hs _ _);exact wpAny_getItem_of (strKind_is _ _ k t) hd.dictOf.mapOf hval (TQ.toks hv S m qq)
   | _=>exact q.elim
  | _=>exact q.elim
 | str x t hx=>cases hv with
  | int i u =>
   obtain ⟨h1,h2,ch,h3,qq⟩:=q;refine tail_any (typeIs_str s _ t) slot_str_getitem.lookup ?_ (hs _ _);have hlt:i.toNat<x.cps.size:=(Array.getElem?_eq_some_iff.mp h3).1;refine getItem_str (by simp;omega) (c:=ch) ?_ (TQ.toks (.str _ _ ?_) S m qq)
   ·have:seqIndex? i x.length=some i.toNat:=Zkf (by unfold Zf5;exact rl (if_pos h1) (rl (if_pos (show i<((x.length:Nat):Int) from show i<((x.cps.size:Nat):Int) by omega)) rfl));refine rl this ?_;exact h3
   ·have hm:=Array.mem_of_getElem? h3;exact Zjj (l:=[ch]) (by intro c hc;refine rl (mem_singleton.mp hc) ?_;exact Zhh hx hm)
  | _=>exact q.elim
 | _=>exact q.elim
theorem VRs.filterMap {xs:List AV} {vs:List Value} (h:VRs xs vs):∀ ks:List Nat,VRs (ks.filterMap (xs[·]?)) (ks.filterMap (vs[·]?))
 | []=>.nil
 | k::r=>by
  have ih:=VRs.filterMap h r;dsimp only [filterMap_cons];cases e:xs[k]? with
  | none =>
   have:vs[k]? = none:=by rw [List.getElem?_eq_none_iff] at e ⊢;refine rl h.length.symm ?_;exact e
   refine rl this ?_;exact ih
  | some a =>
   obtain ⟨v,hv,hr⟩:=h.get e;refine rl hv ?_;exact .cons hr ih
theorem Zp1 {x:Str} {a b:Nat} {l u:Option (Int×Tok)} (hab:a≤b) (hb:b≤x.length) (hl:l.map (·.1)=some (a:Int)∨(l=none∧a=0)) (hu:u.map (·.1)=some (b:Int)∨(u=none∧b=x.length)):slicePicked x l u none=Builtin.Str.strSliceIndices (some (a:Int)) (some (b:Int)) 1 x.length:=by
 show Builtin.Str.strSliceIndices _ _ 1 x.length=_;rcases hl with hl | ⟨rfl,rfl⟩<;>rcases hu with hu | ⟨rfl,rfl⟩
 ·exact rl hl (rl hu rfl)
 ·refine rl hl ?_;exact StrLaws.sliceIdx_none_hi _ _
 ·refine rl hu ?_;exact StrLaws.sliceIdx_none_lo _ _
 ·exact (StrLaws.sliceIdx_none_lo _ _).trans (StrLaws.sliceIdx_none_hi _ _)
theorem Zjk {x:Str}:x.cps.toList.length=x.length:=by simp [Str.length]
set_option tactic.hygienic true in
theorem Zke {x:Str} {tk:Tok} {a b:Nat} {l u:Option (Int×Tok)} {z:Addr} (hx:PyData.strOk x=true) (hab:a≤b) (hb:b≤x.length) (hz:x.length≤sizeLine) (hl:l.map (·.1)=some (a:Int)∨(l=none∧a=0)) (hu:u.map (·.1)=some (b:Int)∨(u=none∧b=x.length)) (q:Q (.str ⟨((x.cps.toList.drop a).take (b - a)).toArray⟩) H) (hsl:s.heap.IsSlice z l u none) (S:St g.c R H s.heap) (m:Sm s₀ s) :
  wpAny (model g.c.prog g.c.w) A (getItem (.str x tk) (.ref z)) (TQ g R s₀ Q) E s:=by
 refine wpAny_getItem_str_slice hsl rfl ?_;have e0:=Zp1 hab hb hl hu;have el:(slicePicked x l u none).length=b - a:=by
  rw [e0,StrLaws.strSliceIndices_plain hab hb,length_map,length_range]
 have e:(slicePicked x l u none).filterMap (x.cps[·]?)=(x.cps.toList.drop a).take (b - a):=by
  rw [e0];exact StrLaws.sliced_plain x hab hb
 unfold sliceMade;split
 ·rename_i hc;refine TQ.pure (.str _ tk hx) S m ?_;have hc':b - a=x.length:=by
   have:=(Bool.and_eq_true_iff.mp hc).2;rw [el] at this;simpa using this
  have:(⟨((x.cps.toList.drop a).take (b - a)).toArray⟩:Str)=x:=by
   exact rl hc' (rl (show a=0 by omega) (rl drop_zero (rl (List.take_of_length_le (le_of_eq Zjk)) (rl Array.toArray_toList rfl))))
  rw [this] at q;exact q
 ·rw [e];refine ⟨?_,TQ.toks (.str _ _ ?_) S m q⟩
  ·show (List.toArray _).size≤sizeLine;rw [size_toArray,length_take,length_drop,Zjk];omega
  ·exact Zjj fun ch hc=>Zhh hx (by have:=List.mem_of_mem_drop (mem_of_mem_take hc);simpa using this)
theorem part_of {x:Option AV} {v:Value} {k:Option Int} (h:(x=none∧v = .none)∨∃ y,x=some y∧VR y v) (e:Zii x=some k):IsPart v k:=by
 rcases h with ⟨rfl,rfl⟩ | ⟨y,rfl,hv⟩
 ·obtain rfl:=osi e;exact .none
 ·cases hv<;>cases e
  exact .int _ _
theorem Zl7 {v:Value} (h:((none:Option AV)=none∧v = .none)∨∃ y,(none:Option AV)=some y∧VR y v):v = .none:=h.elim (·.2) fun ⟨_,e,_⟩=>by contradiction
theorem Znl {v:Value} {i:Int} (h:(some (AV.int i)=none∧v = .none)∨∃ y,some (AV.int i)=some y∧VR y v):∃ t,v = .int i t:=by
 rcases h with ⟨z,_⟩ | ⟨y,z,hv⟩
 ·contradiction
 ·obtain rfl:=osi z;cases hv with
  | int _ t=>exact ⟨t,rfl⟩
theorem Zv5 {value:Expr} {lo hi st:Option Expr} {p:Pos} {a:AV} {l u t:Option AV} {o vl vu vt:Value} (hu:VR a o)
  (hl:(l=none∧vl = .none)∨∃ x,l=some x∧VR x vl) (hh:(u=none∧vu = .none)∨∃ x,u=some x∧VR x vu) (ht:(t=none∧vt = .none)∨∃ x,t=some x∧VR x vt)
  (S:St g.c R H s.heap) (m:Sm s₀ s) (q:Zg9 a l u t Q H) :
  wpAny (model g.c.prog g.c.w) A (subscriptTail value (.Slice lo hi st p) o (.ref s.heap.objs.size)) (TQ g R s₀ Q) E { s with heap:=s.heap.push { cls:=.type "slice",data:=.fields #[vl,vu,vt] } }:=by
 have hs:∀ o j,∃ ops,subscripted (.Slice lo hi st p) false o j=operate ops (getItem o j):=by
  intro o j;cases st with
  | none=>exact ⟨_,rfl⟩
  | some _=>exact ⟨_,rfl⟩
 cases hu with
 | ref pa =>
  obtain ⟨oo,e⟩:∃ oo,H pa=oo:=⟨_,rfl⟩
  rw [Zu1,e] at q;cases oo with
  | none=>exact q.elim
  | some oo =>
  cases oo with
  | list xs =>
   obtain ⟨li,ui,ti,e1,e2,e3,h0,hz,qq⟩:=q;obtain ⟨vs,n,k1,k2,k3⟩:=Zbe S e;obtain ⟨ops,hop⟩:=hs (.ref pa) (.ref s.heap.objs.size);refine tail_any (Heap.IsList.typeIs (s:={ s with heap:=s.heap.push _ }) (k3.push _)) slot_list_getitem.lookup ?_ hop;refine wpAny_getItem_list_slice (k3.push _) (Heap.IsSliceOf.new ..) (part_of hl e1) (part_of hh e2) (part_of ht e3) h0 ?_ (by simp only [size_toArray];refine rl k2.length.symm ?_;exact hz);have hp:VRs (Zb1 xs li ui ti) (Zb1 vs li ui ti):=by
    unfold Zb1;refine rl k2.length ?_;exact k2.filterMap _
   dsimp only;refine rl (Heap.size_push ..) ?_;refine Zey (n:=0) (vs:=Zb1 vs li ui ti) S m hp (le_succ _) (fun _ _ z=>Heap.get?_push_of_some _ (Heap.get?_push_of_some _ z)) (by refine rl (Heap.size_push ..) (rl (Heap.size_push ..) ?_);exact le_add_right _ 2) ?_ qq;have:=Heap.get?_push_size (s.heap.push { cls:=.type "slice",data:=.fields #[vl,vu,vt] }) (o:={ cls:=.type "list",data:=.seq (slicePick vs.toArray li ui ti) }) rfl;rw [Heap.size_push] at this;refine rl this ?_;simp [slicePick,Zb1]
  | _=>exact q.elim
 | str x tk hx =>
  obtain ⟨ops,hop⟩:=hs (.str x tk) (.ref s.heap.objs.size);refine tail_any (typeIs_str _ _ tk) slot_str_getitem.lookup ?_ hop;cases t with
  | some=>cases l with
   | none=>cases u with
    | none=>exact q.elim
    | some y=>cases y<;>exact q.elim
   | some y=>cases u<;>cases y<;>exact q.elim
  | none =>
  cases Zl7 ht;cases l with
  | none=>cases u with
   | none=>exact q.elim
   | some y=>cases y with
    | int ui =>
     rw [Z0q] at q;obtain ⟨h1,h2,h3,qq⟩:=q;cases Zl7 hl;obtain ⟨t1,rfl⟩:=Znl hh;refine Zke (s:={ s with heap:=_ }) (a:=0) (b:=ui.toNat) (l:=none) (u:=some (ui,t1)) hx (zero_le _) (by omega) h3 (.inr ⟨rfl,rfl⟩) (.inl (by show some ui=_;exact rl (toNat_of_nonneg h1) rfl)) ?_ ⟨_,Heap.get?_push_size _ rfl,rfl,rfl⟩ (S.push _) (m.heap _);refine rl (drop_zero ..) (rl (Nat.sub_zero ..) ?_);exact qq
    | _=>exact q.elim
  | some y=>cases u with
   | some=>cases y<;>exact q.elim
   | none=>cases y with
    | int li =>
     rw [Z0p] at q;obtain ⟨h1,h2,h3,qq⟩:=q;cases Zl7 hh;obtain ⟨t1,rfl⟩:=Znl hl;refine Zke (s:={ s with heap:=_ }) (a:=li.toNat) (b:=x.length) (l:=some (li,t1)) (u:=none) hx (by omega) (le_refl _) h3 (.inl (by show some li=_;exact rl (toNat_of_nonneg h1) rfl)) (.inr ⟨rfl,rfl⟩) ?_ ⟨_,Heap.get?_push_size _ rfl,rfl,rfl⟩ (S.push _) (m.heap _);refine rl (List.take_of_length_le (by rw [length_drop,Zjk];exact le_refl _)) ?_;exact qq
    | _=>exact q.elim
 | _=>exact q.elim
end
end Mine
end
section
namespace Mine
section
variable {prog:Program} {w:World} {A:Around} {E:Value→Shared→Prop} {s:Shared}
end
end Mine
end
section
namespace Mine
section
variable {c:Cx} {R:RR} {H:Zaa} {h h':Heap}
theorem St1.addObj (S:St1 c R H h) {x:Addr} {o:AObj} {ob:Obj} (r:R x=none) (hb:c.base.objs.size≤x) (hob:h.get? x=some ob) (hc:ob.cls≠.type "dict") (hni:∀ cl es,o≠.inst cl es) (ho:∀ D,ORep c h D x o):St1 c R (up H x o) h:=by
 obtain ⟨s1,s2,s3,D,s4⟩:=S;have hD:∀ a cl es,H a=some (.inst cl es)→D a≠x:=fun a cl es e q=>by
  obtain ⟨_,ents,n,q2,_⟩:=s4.rep a _ e;rw [q,hob] at q2;exact hc (by exact rl (osi q2) rfl)
 refine ⟨s1,s2,s3,D,⟨fun a ao e=>?_,fun a ao e=>?_,fun a cl es e=>?_,fun a b cl es cl' es' e e'=>?_⟩⟩
 ·by_cases q:a=x
  ·subst q;rw [Zac] at e;obtain rfl:=osi e;exact ho D
  ·rw [Zab q] at e;exact s4.rep a ao e
 ·by_cases q:a=x
  ·subst q;exact ⟨abv hb,r⟩
  ·rw [Zab q] at e;exact s4.above a ao e
 ·by_cases q:a=x
  ·subst q;rw [Zac] at e;obtain rfl:=osi e;exact absurd rfl (hni cl es)
  ·rw [Zab q] at e;obtain ⟨y1,y2,y3⟩:=s4.dict a cl es e;exact ⟨y1,y2,by refine rl (Zab (hD a cl es e)) ?_;exact y3⟩
 ·by_cases q:a=x
  ·subst q;rw [Zac] at e;obtain rfl:=osi e;exact absurd rfl (hni cl es)
  ·by_cases q':b=x
   ·subst q';rw [Zac] at e';obtain rfl:=osi e';exact absurd rfl (hni cl' es')
   ·rw [Zab q] at e;rw [Zab q'] at e';exact s4.inj a b cl es cl' es' e e'
structure Fz (c:Cx) (R:RR) (h h':Heap) (lo:Nat) (H:Zaa):Prop where
 st:∃ H₁,St1 c R H₁ h'∧Real H H₁∧∀ z:Nat,z=h.objs.size∨lo<z→h.objs.size≤z→H₁ z=none
 r:∀ z:Nat,h.objs.size≤z→R z=none∧c.base.objs.size≤z
theorem Fz.start (S:St c R H h) (k:∀ b ob,h.get? b=some ob→h'.get? b=some ob) (hs:h.objs.size≤h'.objs.size):Fz c R h h' h.objs.size H :=
 let ⟨H₁,s,r⟩:=S
 ⟨⟨H₁,s.keeps k hs,r,fun z _ hz=>s.freeH hz⟩,fun z hz=>⟨s.freeR hz,le_trans s.size hz⟩⟩
theorem Fz.add {lo:Nat} (F:Fz c R h h' lo H) {x:Addr} {o:AObj} {ob:Obj} (hx:h.objs.size≤x) (hl:lo<x) (hob:h'.get? x=some ob) (hc:ob.cls≠.type "dict") (hni:∀ cl es,o≠.inst cl es) (ho:∀ D,ORep c h' D x o) (hb:o.isB=false) (hlo:h.objs.size≤lo):H x=none∧Fz c R h h' x (up H x o):=by
 obtain ⟨⟨H₁,s,r,f⟩,fr⟩:=F;have e:=f x (.inr hl) hx;obtain ⟨e1,e2⟩:=fr x hx;refine ⟨r.none e,⟨_,s.addObj e1 e2 hob hc hni ho,r.put hb (.inl e),fun z hz hz'=>?_⟩,fr⟩;rw [Zab]
 ·exact f z (hz.imp_right fun q=>Nat.lt_trans hl q) hz'
 ·rintro rfl;rcases hz with q | q
  ·have q':(z:Nat)=h.objs.size:=q;omega
  ·exact lt_irrefl _ q
theorem Fz.last {lo:Nat} (F:Fz c R h h' lo H) {o:AObj} {ob:Obj} (hob:h'.get? h.objs.size=some ob) (hc:ob.cls≠.type "dict") (hni:∀ cl es,o≠.inst cl es) (ho:∀ D,ORep c h' D h.objs.size o) (hb:o.isB=false):H h.objs.size=none∧St c R (up H h.objs.size o) h':=by
 obtain ⟨⟨H₁,s,r,f⟩,fr⟩:=F;have e:=f h.objs.size (.inl rfl) (le_refl _);obtain ⟨e1,e2⟩:=fr h.objs.size (le_refl _);exact ⟨r.none e,_,s.addObj e1 e2 hob hc hni ho,r.put hb (.inl e)⟩
theorem newP {es:List (Str×AV)} {kvs:List (Str×Value)} {as:List Addr} {lo:Nat} {K:List Addr→Zaa→Prop} (hr:DRs es kvs) (F:Fz c R h h' lo H) (hlo:h.objs.size≤lo) (hl:as.length=kvs.length) (ri:as.Pairwise (· < ·)) (ab:∀ a∈as,lo<a)
  (hp:∀ (j:Nat) (a:Addr),as[j]? = some a→∃ key k x,kvs[j]? = some (k,x)∧(strKind c.prog c.w).is k key=true∧h'.get? a=some { cls:=.type "tuple",data:=.seq #[key,x] }) (q:Zfp H es K):∃ H' lo',Fz c R h h' lo' H'∧K as H':=by
 induction hr generalizing as lo H K with
 | nil=>cases as with
  | nil=>exact ⟨H,lo,F,q⟩
  | cons=>cases hl
 | @cons k a0 x es kvs h1 h2 _ ih=>cases as with
  | nil=>cases hl
  | cons a as =>
   obtain ⟨r1,r2⟩:=List.pairwise_cons.mp ri;obtain ⟨key,k',x',e1,e2,e3⟩:=hp 0 a rfl;obtain ⟨rfl,rfl⟩:=Prod.mk.inj (osi e1);have hla:lo<a:=ab a (.head _);obtain ⟨t,rfl⟩:∃ t,key = .str k t:=by
    cases key<;>simp [PySem.strKind,Value.isStrOf] at e2
    subst e2;exact ⟨_,rfl⟩
   obtain ⟨z,F'⟩:=F.add (o:=.tuple [.str k,_]) (le_of_lt (lt_of_le_of_lt hlo hla)) hla e3 (fun z=>absurd (Value.type.inj z) (by decide)) (by intro _ _ z;contradiction) (fun D=>⟨[.str k t,x],0,e3,.cons (.str _ _ h1) (.cons h2 .nil)⟩) rfl hlo;exact ih (as:=as) F' (le_of_lt (lt_of_le_of_lt hlo hla)) (Nat.succ.inj hl) r2 r1 (fun j b hb=>hp (j+1) b hb) (q a z)
end
end Mine
end
section
namespace Mine
section
variable {g:Gx} {A:Around} {R:RR} {s₀ s:Shared} {H:Zaa} {E:Value→Shared→Prop} {Q:AV→Zaa→Prop}
set_option tactic.hygienic true in
theorem Z0y {a:AV} {u:Value} {k ty:String} {b:Bool} (hu:VR a u) (S:St g.c R H s.heap) (m:Sm s₀ s) (hk:Ze0 H a=some k) (hty:ty = "int"∨ty = "bool"∨ty = "str"∨ty = "list")
  (hb:(k==ty||(k=="bool"&&ty=="int"))=b) (q:Q (.bool b) H):wpAny (model g.c.prog g.c.w) A (call (.builtin "isinstance") [u,.type ty]) (TQ g R s₀ Q) E s:=by
 subst hb;cases hu with
 | none =>
  obtain rfl:=osi hk;rcases hty with rfl | rfl | rfl | rfl
  ·exact IsiPair.NoneType_int (TQ.toks (.bool _) S m q)
  ·exact IsiPair.NoneType_bool (TQ.toks (.bool _) S m q)
  ·exact IsiPair.NoneType_str (TQ.toks (.bool _) S m q)
  ·exact IsiPair.NoneType_list (TQ.toks (.bool _) S m q)
 | bool b =>
  obtain rfl:=osi hk;rcases hty with rfl | rfl | rfl | rfl
  ·exact IsiPair.bool_int (TQ.pure (.bool _) S m q)
  ·exact IsiPair.bool_bool (TQ.pure (.bool _) S m q)
  ·exact IsiPair.bool_str (TQ.toks (.bool _) S m q)
  ·exact IsiPair.bool_list (TQ.toks (.bool _) S m q)
 | int i t =>
  obtain rfl:=osi hk;rcases hty with rfl | rfl | rfl | rfl
  ·exact IsiPair.int_int (TQ.pure (.bool _) S m q)
  ·exact IsiPair.int_bool (TQ.toks (.bool _) S m q)
  ·exact IsiPair.int_str (TQ.toks (.bool _) S m q)
  ·exact IsiPair.int_list (TQ.toks (.bool _) S m q)
 | str x t hx =>
  obtain rfl:=osi hk;rcases hty with rfl | rfl | rfl | rfl
  ·exact IsiPair.str_int (TQ.toks (.bool _) S m q)
  ·exact IsiPair.str_bool (TQ.toks (.bool _) S m q)
  ·exact IsiPair.str_str (TQ.pure (.bool _) S m q)
  ·exact IsiPair.str_list (TQ.toks (.bool _) S m q)
 | ref p =>
  unfold Ze0 at hk;dsimp only at hk;split at hk
  ·rename_i xs e;obtain rfl:=osi hk;obtain ⟨vs,n,h1,h2,h3⟩:=Zbe S e;rcases hty with rfl | rfl | rfl | rfl
   ·exact IsiPair.list_int h1 rfl (TQ.toks (.bool _) S m q)
   ·exact IsiPair.list_bool h1 rfl (TQ.toks (.bool _) S m q)
   ·exact IsiPair.list_str h1 rfl (TQ.toks (.bool _) S m q)
   ·exact IsiPair.list_list h1 rfl (TQ.pure (.bool _) S m q)
  ·rename_i xs e;obtain rfl:=osi hk;obtain ⟨vs,n,h1,h2,h3⟩:=Zcz S e;rcases hty with rfl | rfl | rfl | rfl
   ·exact IsiPair.tuple_int h1 rfl (TQ.toks (.bool _) S m q)
   ·exact IsiPair.tuple_bool h1 rfl (TQ.toks (.bool _) S m q)
   ·exact IsiPair.tuple_str h1 rfl (TQ.toks (.bool _) S m q)
   ·exact IsiPair.tuple_list h1 rfl (TQ.toks (.bool _) S m q)
  ·rename_i ep es e;obtain rfl:=osi hk;obtain ⟨kvs,⟨o,ents,h1,h2,h3⟩,hr⟩:=Zbu S e;rcases hty with rfl | rfl | rfl | rfl
   ·exact IsiPair.dict_int h1 h2.1 (TQ.toks (.bool _) S m q)
   ·exact IsiPair.dict_bool h1 h2.1 (TQ.toks (.bool _) S m q)
   ·exact IsiPair.dict_str h1 h2.1 (TQ.toks (.bool _) S m q)
   ·exact IsiPair.dict_list h1 h2.1 (TQ.toks (.bool _) S m q)
  ·contradiction
noncomputable def Zjo:Pr→Value
 | .len=>.builtin "len"
 | .list=>.type "list"
 | .int=>.type "int"
 | .range=>.type "range"
 | .sum=>.builtin "sum"
 | .all=>.builtin "all"
 | .min=>.builtin "min"
 | .max=>.builtin "max"
 | .min3=>.builtin "min"
noncomputable def Zg1:String→Value
 | "len"=>.builtin "len"
 | "list"=>.type "list"
 | "int"=>.type "int"
 | "range"=>.type "range"
 | "sum"=>.builtin "sum"
 | "all"=>.builtin "all"
 | "min"=>.builtin "min"
 | "max"=>.builtin "max"
 | "isinstance"=>.builtin "isinstance"
 | "bool"=>.type "bool"
 | "str"=>.type "str"
 | "ValueError"=>.type "ValueError"
 | _=>.builtin "?"
theorem Zkg (f:Pr):Zg1 f.str=Zjo f:=by cases f<;>rfl
theorem Zoa (f:Pr):(∃ i,Zjo f = .builtin i)∨∃ i,Zjo f = .type i:=by
 cases f<;>first | exact .inl ⟨_,rfl⟩ | exact .inr ⟨_,rfl⟩
theorem St.kept {h h':Heap} {e₀:Env} {l₀:List Env} (ev:Ev g A R e₀ l₀) (S:St g.c R H h) (k:∀ b o,h.get? b=some o→h'.get? b=some o):St g.c R H h':=by
 obtain ⟨m,hm⟩:=(ev.stk e₀ (mem_cons_self ..)).ns;obtain ⟨o,_,_,w,_⟩:=(S.res _ _ hm).2;have h1:=(S.res _ _ hm).1;have h2:=lts (k _ _ w);obtain ⟨H₁,⟨s1,s2,s3,D,s4⟩,r⟩:=S;exact ⟨H₁,⟨fun b o e=>k b o (s1 b o e),le_of_lt (lt_of_le_of_lt h1 h2),fun b r e=>⟨(s3 b r e).1,(s3 b r e).2.agree fun _=>k _ _⟩,D,
  ⟨fun a o e=>(s4.rep a o e).agree (fun _=>k _ _) fun _ _ _=>⟨rfl,fun _=>k _ _⟩,s4.above,s4.dict,s4.inj⟩⟩,r⟩
theorem Zos {K:Type} {kvs:List (K×Value)} {acc:Array Value} (h:ItemsOf (fun i v=>∃ k,kvs[i]? = some (k,v)) acc kvs.length):acc.toList=kvs.map (·.2):=by
 obtain ⟨h1,h2⟩:=h;exact kdl_vals_eq acc.toList (by simpa using h1) fun j v e=>h2 j v (by simpa using e)
theorem VRs.of_get:∀ {as:List AV} {vs:List Value},as.length=vs.length→(∀ (i:Nat) a v,as[i]? = some a→vs[i]? = some v→VR a v)→VRs as vs
 | [],[],_,_=>.nil
 | a::as,v::vs,hl,h=>.cons (h 0 a v rfl rfl) (VRs.of_get (Nat.succ.inj hl) fun i=>h (i+1))
theorem DRs.key {es:List (Str×AV)} {kvs:List (Str×Value)} (h:DRs es kvs):∀ {k:Nat} {n:Str} {v:Value},kvs[k]? = some (n,v)→∃ a,es[k]? = some (n,a)∧PyData.strOk n=true:=by
 induction h with
 | nil=>intro k n a e;simp at e
 | cons h1 h2 _ ih =>
  intro k n a e;cases k with
  | zero=>simp at e;obtain ⟨rfl,rfl⟩:=e;exact ⟨_,rfl,h1⟩
  | succ k=>exact ih (by simpa using e)
theorem Zhi {prog:Program} {w:World} {k:Str} {key:Value} (h:(PySem.strKind prog w).is k key=true):∃ t,key = .str k t:=by
 cases key<;>simp [PySem.strKind,Value.isStrOf] at h
 subst h;exact ⟨_,rfl⟩
theorem VRs.refs:∀ {as:List Addr},VRs (as.map .ref) (as.map Value.ref)
 | []=>.nil
 | _::_=>.cons (.ref _) VRs.refs
theorem Zv7 {p:Addr} {e₀:Env} {l₀:List Env} {mg mb:Str→Option Value} (C:g.c.Ok mg mb) (ev:Ev g A R e₀ l₀) (S:St g.c R H s.heap) (m:Sm s₀ s) (q:Zc1 g.md .list [.ref p] Q H) :
  wpAny (model g.c.prog g.c.w) A (call (.type "list") [.ref p]) (TQ g R s₀ Q) E s:=by
 obtain ⟨oo,e⟩:∃ oo,H p=oo:=⟨_,rfl⟩
 rw [Zd9,e] at q;cases oo with
 | none=>exact q.elim
 | some oo =>
 cases oo with
 | list xs =>
  obtain ⟨vs,n,k1,k2,k3⟩:=Zbe S e;have hl:=k2.length;refine call_list_seq (hsz:=by simp only [size_toArray];refine rl hl.symm ?_;exact q.1) _ (.inl rfl) k1 rfl rfl fun h' c' hk hD=>?_;exact Zey (s:=s) S m k2 (le_refl _) hk (le_of_lt (lts hD)) hD q.2
 | tuple xs =>
  obtain ⟨vs,n,k1,k2,k3⟩:=Zcz S e;have hl:=k2.length;refine call_list_seq (hsz:=by simp only [size_toArray];refine rl hl.symm ?_;exact q.1) _ (.inr rfl) k1 rfl rfl fun h' c' hk hD=>?_;exact Zey (s:=s) S m k2 (le_refl _) hk (le_of_lt (lts hD)) hD q.2
 | dict ep es =>
  obtain ⟨hmd,hz,q⟩:=q;obtain ⟨kvs,hd,hr⟩:=Zbu S e;have hl:=hr.length;refine kdl_call (kdl_dict (knd:=strKind g.c.prog g.c.w) (kvs:=kvs) (ep:=ep) (Zi5 C S e)) (ev.aok.hand hmd) hd (by refine rl hl ?_;exact hz) fun h' tk acc' c' hk hD hi=>?_;have hvr:VRs (es.map fun e=>AV.str e.1) acc'.toList:=by
   refine VRs.of_get (by refine rl (length_map ..) (rl (Eq.symm (hl ..)) (rl (Eq.symm (hi.1 ..)) ?_));rfl) fun i a v h1 h2=>?_;obtain ⟨k,x,h3,h4⟩:=hi.2 i v (by simpa using h2);obtain ⟨t,rfl⟩:=Zhi h4;obtain ⟨av,h5,h6⟩:=hr.key h3;rw [getElem?_map,h5] at h1;obtain rfl:=osi h1;exact .str _ _ h6
  exact Zey (s:=s) (n:=c') S m hvr (le_refl _) hk (le_of_lt (lts hD)) (by exact rl hD rfl) q
 | vals d =>
  obtain ⟨oo,e'⟩:∃ oo,H d=oo:=⟨_,rfl⟩
  dsimp only at q;rw [e'] at q;cases oo with
  | none=>exact q.elim
  | some oo =>
  cases oo with
  | dict ep es =>
   obtain ⟨hmd,hz,q⟩:=q;obtain ⟨kvs,hd,hr⟩:=Zbu S e';have hl:=hr.length;obtain ⟨⟨D,hv⟩,_⟩:=S.orep e;refine kdl_call (kdl_values (knd:=strKind g.c.prog g.c.w) (kvs:=kvs) (ep:=ep)) (ev.aok.hand hmd) ⟨⟨_,hv,rfl,rfl⟩,hd⟩ (by refine rl hl ?_;exact hz) fun h' tk acc' c' hk hD hi=>?_;refine Zey (s:=s) (n:=c') S m (vs:=acc'.toList) ?_ (le_refl _) hk (le_of_lt (lts hD)) (by exact rl hD rfl) q;refine rl (Zos hi) ?_;exact hr.vals
  | _=>exact q.elim
 | itms d =>
  obtain ⟨oo,e'⟩:∃ oo,H d=oo:=⟨_,rfl⟩
  dsimp only at q;rw [e'] at q;cases oo with
  | none=>exact q.elim
  | some oo =>
  cases oo with
  | dict ep es =>
   obtain ⟨hmd,hz,q⟩:=q;obtain ⟨kvs,hd,hr⟩:=Zbu S e';have hl:=hr.length;obtain ⟨⟨D,hv⟩,_⟩:=S.orep e;refine kdx_call (knd:=strKind g.c.prog g.c.w) (kvs:=kvs) (ep:=ep) (ev.aok.hand hmd) ⟨_,hv,rfl,rfl⟩ hd (by refine rl hl ?_;exact hz) fun h' tk acc c' as hk hD hal hG hacc=>?_;obtain ⟨H',lo,F,q⟩:=newP hr (Fz.start S hk (le_of_lt (lts hD))) (le_refl _) hal hG.rise hG.above hG.pairs q;obtain ⟨z,S'⟩:=F.last (o:=.list (as.map .ref)) hD (fun z=>absurd (Value.type.inj z) (by decide)) (by intro _ _ z;contradiction) (fun D=>⟨acc.toList,c',hD,by refine rl hacc ?_;exact VRs.refs⟩) rfl;exact ⟨.ref _,_,.ref _,S',m.step _ _,q _ z⟩
  | _=>exact q.elim
 | _=>exact q.elim
theorem Zkh {ns:List Int} {val:Nat→Int}:∀ {k:Nat},k≤ns.length→(∀ i x,ns[i]? = some x→val i=x)→preSum val k=(ns.take k).sum
 | 0,_,_=>by simp [preSum]
 | k+1,hk,h=>by
  have hlt:k<ns.length:=hk;have e:ns[k]? = some ns[k]:=by simp [hlt]
  rw [preSum,Zkh (le_of_lt hlt) h,take_add_one,List.sum_append,e,h k _ e];show _=_+List.sum [ns[k]];simp
theorem VRs.ints {ns:List Int} {vs:List Value} (h:VRs (ns.map .int) vs):∀ (i:Nat) v,vs[i]? = some v→∃ t,v = .int ((ns[i]?).getD 0) t:=by
 intro i v e;have hl:=h.length;rw [length_map] at hl;have hi:i<ns.length:=by have:=(gsi e).1;lia
 obtain ⟨v',h1,h2⟩:=h.get (i:=i) (a:=.int ns[i]) (by simp [hi]);rw [e] at h1;obtain rfl:=osi h1;cases h2 with
 | int _ t=>exact ⟨t,by simp [hi]⟩
theorem Zpi {ns:List Int}:preSum (fun i=>(ns[i]?).getD 0) ns.length=ns.sum:=by
 exact rl (Zkh (le_refl _) (fun i x e=>by simp [e])) (rl take_length rfl)
theorem Z0t {p:Addr} {e₀:Env} {l₀:List Env} (ev:Ev g A R e₀ l₀) (S:St g.c R H s.heap) (m:Sm s₀ s) (q:Zc1 g.md .sum [.ref p] Q H) :
  wpAny (model g.c.prog g.c.w) A (call (.builtin "sum") [.ref p]) (TQ g R s₀ Q) E s:=by
 rw [Zgn] at q;obtain ⟨hmd,q⟩:=q;refine call_sum_walkG ?_;have hlt:∀ {b o},s.heap.get? b=some o→b≠s.heap.objs.size:=fun e=>ne_of_lt (lts e);obtain ⟨oo,e⟩:∃ oo,H p=oo:=⟨_,rfl⟩
 rw [e] at q;cases oo with
 | none=>exact q.elim
 | some oo =>
 cases oo with
 | list xs =>
  obtain ⟨ns,rfl,q⟩:=q;obtain ⟨vs,n,k1,k2,k3⟩:=Zbe S e;have hl:=k2.length;rw [length_map] at hl;have W:=Walks.list (prog:=g.c.prog) (w:=g.c.w) (A:=A.in1) (ev.aok.hand hmd) _ _ (hlt k1) vs.toArray;refine wpAny_pyIter_list k3 ⟨_,_,_,_,_,_,fun i=>(ns[i]?).getD 0,rfl,W,⟨⟨_,Heap.get?_push_size _ rfl,rfl,rfl⟩,k3.push _⟩,fun b hb=>?_,fun i v h=>k2.ints i v (by simpa using h),fun h' tk t' hk=>?_⟩
  ·have:=lts k1;simp only [mem_cons,not_mem_nil,or_false] at hb;rcases hb with rfl | rfl
   ·show _<(Heap.push _ _).objs.size;refine rl (Heap.size_push ..) ?_;exact lt_succ_self _
   ·show _<(Heap.push _ _).objs.size;refine rl (Heap.size_push ..) ?_;exact Nat.lt_succ_of_lt this
  ·refine rl size_toArray (rl hl.symm (rl Zpi ?_));exact ⟨_,_,.int _ _,S.kept ev fun b o w=>hk b o (by simp only [mem_singleton];exact hlt w) (Heap.get?_push_of_some _ w),m.step _ _,q⟩
 | vals d =>
  obtain ⟨oo,e'⟩:∃ oo,H d=oo:=⟨_,rfl⟩
  dsimp only at q;rw [e'] at q;cases oo with
  | none=>exact q.elim
  | some oo =>
  cases oo with
  | dict ep es =>
   obtain ⟨ns,hns,q⟩:=q;obtain ⟨kvs,hd,hr⟩:=Zbu S e';have hl:=hr.length;have hvs:=hr.vals;rw [hns] at hvs;have hl2:=hvs.length;rw [length_map,length_map] at hl2;obtain ⟨⟨D,hv⟩,_⟩:=S.orep e;obtain ⟨od,eo,ho,hrest⟩:=id hd;have W:=Walks.dictValues (knd:=strKind g.c.prog g.c.w) (A:=A.in1) (ev.aok.hand hmd) _ _ (hlt ho) kvs ep;refine wpAny_pyIter_values (knd:=strKind g.c.prog g.c.w) (kvs:=kvs) (ep:=ep) ⟨_,hv,rfl,rfl⟩ hd ⟨_,_,_,_,_,_,fun i=>(ns[i]?).getD 0,rfl,W,⟨⟨_,Heap.get?_push_size _ rfl,rfl,rfl⟩,hd.push _⟩,fun b hb=>?_,fun i v h=>?_,fun h' tk t' hk=>?_⟩
   ·have:=lts ho;simp only [mem_cons,not_mem_nil,or_false] at hb;rcases hb with rfl | rfl
    ·show _<(Heap.push _ _).objs.size;refine rl (Heap.size_push ..) ?_;exact lt_succ_self _
    ·show _<(Heap.push _ _).objs.size;refine rl (Heap.size_push ..) ?_;exact Nat.lt_succ_of_lt this
   ·obtain ⟨k,h⟩:=h;exact hvs.ints i v (by refine rl (getElem?_map) (rl h ?_);rfl)
   ·refine rl hl2.symm (rl Zpi ?_);exact ⟨_,_,.int _ _,S.kept ev fun b o w=>hk b o (by simp only [mem_singleton];exact hlt w) (Heap.get?_push_of_some _ w),m.step _ _,q⟩
  | _=>exact q.elim
 | _=>exact q.elim
theorem VRs.bools {bs:List Bool} {vs:List Value} (h:VRs (bs.map .bool) vs):∀ (i:Nat) v,vs[i]? = some v→v = .bool ((bs[i]?).getD false):=by
 intro i v e;have hl:=h.length;rw [length_map] at hl;have hi:i<bs.length:=by have:=(gsi e).1;lia
 obtain ⟨v',h1,h2⟩:=h.get (i:=i) (a:=.bool bs[i]) (by simp [hi]);rw [e] at h1;obtain rfl:=osi h1;cases h2;simp [hi]
theorem Zxp {bs:List Bool}:(List.range bs.length).all (fun i=>(bs[i]?).getD false)=bs.all id:=by
 rw [Bool.eq_iff_iff,all_eq_true,all_eq_true];constructor
 ·intro h x hx;obtain ⟨i,hi,rfl⟩:=List.getElem_of_mem hx;have:=h i (mem_range.mpr hi);simpa [hi] using this
 ·intro h i hi;have hi:=mem_range.mp hi;have:=h bs[i] (getElem_mem hi);simpa [hi] using this
theorem Z01 {p:Addr} {e₀:Env} {l₀:List Env} (ev:Ev g A R e₀ l₀) (S:St g.c R H s.heap) (m:Sm s₀ s) (q:Zc1 g.md .all [.ref p] Q H) :
  wpAny (model g.c.prog g.c.w) A (call (.builtin "all") [.ref p]) (TQ g R s₀ Q) E s:=by
 rw [Ziv] at q;obtain ⟨hmd,q⟩:=q;refine call_all_walk ?_;obtain ⟨oo,e⟩:∃ oo,H p=oo:=⟨_,rfl⟩
 rw [e] at q;cases oo with
 | none=>exact q.elim
 | some oo =>
 cases oo with
 | list xs =>
  obtain ⟨bs,rfl,q⟩:=q;obtain ⟨vs,n,k1,k2,k3⟩:=Zbe S e;have hl:=k2.length;rw [length_map] at hl;have W:=Walks.list (prog:=g.c.prog) (w:=g.c.w) (A:=A.in1) (ev.aok.hand hmd) _ _ (ne_of_lt (lts k1)) vs.toArray;refine wpAny_pyIter_list k3 ⟨_,_,_,_,_,_,fun i=>(bs[i]?).getD false,rfl,W,⟨⟨_,Heap.get?_push_size _ rfl,rfl,rfl⟩,k3.push _⟩,fun i v s' Q' E' h hq=>?_,fun h' tk hk=>?_⟩
  ·refine rl (k2.bools i v (by simpa using h)) ?_;exact wpAny_truthy_bool hq
  ·refine rl size_toArray (rl hl.symm (rl Zxp ?_));exact ⟨_,_,.bool _,S.kept ev fun b o w=>hk b o (by simp only [mem_singleton];exact ne_of_lt (lts w)) (Heap.get?_push_of_some _ w),m.step _ _,q⟩
 | _=>exact q.elim
theorem Z0x {a:AV} {u:Value} {mg mb:Str→Option Value} (C:g.c.Ok mg mb) (hv:VR a u) (S:St g.c R H s.heap) (m:Sm s₀ s) (q:wlen a Q H):wpAny (model g.c.prog g.c.w) A (call (.builtin "len") [u]) (TQ g R s₀ Q) E s:=by
 cases hv with
 | str s' t hs=>exact len_str (by have:=q.1;lia) (TQ.toks (.int _ _) S m q.2)
 | ref p =>
  obtain ⟨oo,e⟩:∃ oo,H p=oo:=⟨_,rfl⟩
  dsimp only [wlen] at q;rw [e] at q;cases oo with
  | none=>exact q.elim
  | some oo =>
  cases oo with
  | list xs =>
   obtain ⟨vs,n,k1,k2,k3⟩:=Zbe S e;have hl:=k2.length;refine call_len_list k3 (by simp only [size_toArray];have:=q.1;lia) (TQ.toks (.int _ _) S m ?_);simp only [size_toArray];refine rl hl.symm ?_;exact q.2
  | tuple xs =>
   obtain ⟨vs,n,k1,k2,k3⟩:=Zcz S e;have hl:=k2.length;refine PyProof.Rows.len_tuple k3 (by simp only [size_toArray];have:=q.1;lia) (TQ.toks (.int _ _) S m ?_);simp only [size_toArray];refine rl hl.symm ?_;exact q.2
  | dict ep es =>
   obtain ⟨kvs,hd,hr⟩:=Zbu S e;have hl:=hr.length;refine call_len_dict (Zi5 C S e) hd.dictOf (by have:=q.1;lia) (TQ.toks (.int _ _) S m ?_);refine rl hl ?_;exact q.2
  | script ns =>
   obtain ⟨⟨D,vs,n,k1,k2⟩,_⟩:=S.orep e;have hl:=k2.length;rw [length_map] at hl;refine call_len_list (items:=vs.toArray) ⟨_,k1,rfl,_,rfl⟩ (by simp only [size_toArray];have:=q.1;lia) (TQ.toks (.int _ _) S m ?_);simp only [size_toArray];refine rl hl.symm ?_;exact q.2
  | _=>exact q.elim
 | _=>exact q.elim
theorem Zvv {as:List AV} {vs:List Value} {k:Int→Int→Prop} {m:List Value→Prop} (hv:VRs as vs) (q:wi2 as k) (f:∀ x y t t',k x y→m [.int x t,.int y t']):m vs:=by
 cases hv with
 | nil=>exact q.elim
 | cons h1 hr=>exact Zdv (m:=fun r=>m (_::r)) hr q fun b v h2 q=>Zdk (m:=fun u v=>m [u,v]) h1 h2 q f
theorem Z0v {a b:Int} {t u:Tok} (S:St g.c R H s.heap) (m:Sm s₀ s) (q:RgOk a b∧∀ z,H z=none→Q (.ref z) (up H z (.range a b))):wpAny (model g.c.prog g.c.w) A (call (.type "range") [.int a t,.int b u]) (TQ g R s₀ Q) E s:=by
 refine call_range_2 ?_;obtain ⟨e,S'⟩:=S.newObj (o:=.range _ _) (le_refl _) (fun _ _ z=>Heap.get?_push_of_some _ z) (by refine rl (Heap.size_push ..) ?_;exact le_succ _) (by intro _ _ z;contradiction) (fun D=>⟨q.1,_,_,_,Heap.get?_push_size _ rfl⟩);exact ⟨_,_,.ref _,S',m.step _ _,q.2 _ e⟩
theorem Zx8 {b:Int} {t:Tok} (S:St g.c R H s.heap) (m:Sm s₀ s) (q:(-(2 ^ 62)<b∧b<2 ^ 62)∧∀ z,H z=none→Q (.ref z) (up H z (.range 0 b))):wpAny (model g.c.prog g.c.w) A (call (.type "range") [.int b t]) (TQ g R s₀ Q) E s:=by
 refine call_range_1 ?_;obtain ⟨e,S'⟩:=S.newObj (o:=.range 0 _) (le_refl _) (fun _ _ z=>Heap.get?_push_of_some _ z) (by refine rl (Heap.size_push ..) ?_;exact le_succ _) (by intro _ _ z;contradiction) (fun D=>⟨⟨by decide,by decide,q.1.1,q.1.2⟩,_,_,_,Heap.get?_push_size _ rfl⟩);exact ⟨_,_,.ref _,S',m.step _ _,q.2 _ e⟩
set_option tactic.hygienic true in
theorem Zx9 {f:Pr} {as:List AV} {vs:List Value} {e₀:Env} {l₀:List Env} {mg mb:Str→Option Value} (C:g.c.Ok mg mb) (ev:Ev g A R e₀ l₀) (hv:VRs as vs) (S:St g.c R H s.heap) (m:Sm s₀ s) (q:Zc1 g.md f as Q H) :
  wpAny (model g.c.prog g.c.w) A (call (Zjo f) vs) (TQ g R s₀ Q) E s:=by
 cases f with
 | len=>exact Zdv (m:=fun vs=>wpAny _ A (call (.builtin "len") vs) (TQ g R s₀ Q) E s) hv q fun a v h q=>Z0x C h S m q
 | list =>
  refine Zdv (m:=fun vs=>wpAny _ A (call (.type "list") vs) (TQ g R s₀ Q) E s) hv q fun a v h q=>?_;cases h with
  | ref p=>exact Zv7 C ev S m q
  | _=>exact q.elim
 | int =>
  refine Zdv (m:=fun vs=>wpAny _ A (call (.type "int") vs) (TQ g R s₀ Q) E s) hv q fun a v h q=>?_;cases h with
  | bool b=>exact call_int_bool (TQ.toks (.int _ _) S m q)
  | _=>exact q.elim
 | range =>
  cases hv with
  | nil=>exact q.elim
  | cons h1 hr=>cases hr with
   | nil=>cases h1 with
    | int b t=>exact Zx8 S m q
    | _=>exact q.elim
   | cons h2 hr =>
    have q:onV1 (_::_) (fun b=>wii _ b fun a b=>RgOk a b∧∀ z,H z=none→Q (.ref z) (up H z (.range a b))):=q;exact Zdv (m:=fun r=>wpAny _ A (call (.type "range") (_::r)) (TQ g R s₀ Q) E s) (.cons h2 hr) q fun b v h2 q=>Zdk (m:=fun u v=>wpAny _ A (call (.type "range") [u,v]) (TQ g R s₀ Q) E s) h1 h2 q fun _ _ _ _ q=>Z0v S m q
 | sum =>
  refine Zdv (m:=fun vs=>wpAny _ A (call (.builtin "sum") vs) (TQ g R s₀ Q) E s) hv q fun a v h q=>?_;cases h with
  | ref p=>exact Z0t ev S m q
  | _=>exact q.2.elim
 | all =>
  refine Zdv (m:=fun vs=>wpAny _ A (call (.builtin "all") vs) (TQ g R s₀ Q) E s) hv q fun a v h q=>?_;cases h with
  | ref p=>exact Z01 ev S m q
  | _=>exact q.2.elim
 | min =>
  refine Zvv (m:=fun vs=>wpAny _ A (call (.builtin "min") vs) (TQ g R s₀ Q) E s) hv q fun x y t t' q=>?_;refine min_two_ints (ev.aok.hand q.1) fun h' tk hk=>?_;have q:=q.2;split
  ·rename_i z;rw [if_pos z] at q;exact ⟨_,_,.int _ _,S.kept ev hk,m.step _ _,q⟩
  ·rename_i z;rw [if_neg z] at q;exact ⟨_,_,.int _ _,S.kept ev hk,m.step _ _,q⟩
 | _=>exact q.elim
theorem Zs4 {p:Addr} {v:AV} {u:Value} {xs:List AV} (hv:VR v u) (S:St g.c R H s.heap) (m:Sm s₀ s) (e:H p=some (.list xs)) (hz:xs.length≤sizeLine) (q:Q .none (up H p (.list (xs++[v])))) :
  wpAny (model g.c.prog g.c.w) A (call (.builtin "list.append") [.ref p,u]) (TQ g R s₀ Q) E s:=by
 obtain ⟨vs,n,k1,k2,k3⟩:=Zbe S e;refine append_at k1 (fun h' hs ho=>?_) (by simp only [size_toArray];refine rl k2.length.symm ?_;exact hz);refine ⟨.none,_,.none,S.setObj (o':=.list (xs++[v])) e (by intro _ _ z;contradiction) hs (fun D=>⟨vs++[u],n+1,?_,k2.append (.one hv)⟩),m.heap _,q⟩;refine rl ho ?_;simp
end
end Mine
end
section
namespace Mine
theorem dn {c:Prop} [d:Decidable c] {k:c→Bool} (h:(if h:c then k h else false)=true):∃ q,k q=true :=
 match d,h with
 | .isTrue q,h=>⟨q,h⟩
 | .isFalse _,h=>Bool.noConfusion h
theorem and2 {a b:Bool} (h:(a&&b)=true):a=true∧b=true:=match a,h with
 | true,h=>⟨rfl,h⟩
 | false,h=>Bool.noConfusion h
noncomputable def Zvb (e:Expr) (k:PySem.BoolOp→List Expr→Pos→Bool):Bool:=if h:e.ctorIdx=0 then Expr.BoolOp.elim (motive_1:=fun _=>Bool) e h k else false
theorem Zoi {m:Expr→Prop} {e:Expr} {k:PySem.BoolOp→List Expr→Pos→Bool} (h:Zvb e k=true) (f:∀ o vs p,k o vs p=true→m (.BoolOp o vs p)):m e :=
 (dn h).elim fun q z=>Expr.BoolOp.elim (motive_1:=fun e=>∀ q,Expr.BoolOp.elim (motive_1:=fun _=>Bool) e q k=true→m e) e q (fun o vs p _ z=>f o vs p z) q z
noncomputable def Zyu (e:Expr) (k:Expr→Operator→Expr→Pos→Bool):Bool:=if h:e.ctorIdx=2 then Expr.BinOp.elim (motive_1:=fun _=>Bool) e h k else false
theorem Zql {m:Expr→Prop} {e:Expr} {k:Expr→Operator→Expr→Pos→Bool} (h:Zyu e k=true) (f:∀ l o r p,k l o r p=true→m (.BinOp l o r p)):m e :=
 (dn h).elim fun q z=>Expr.BinOp.elim (motive_1:=fun e=>∀ q,Expr.BinOp.elim (motive_1:=fun _=>Bool) e q k=true→m e) e q (fun l o r p _ z=>f l o r p z) q z
noncomputable def onUn (e:Expr) (k:PySem.UnaryOp→Expr→Pos→Bool):Bool:=if h:e.ctorIdx=3 then Expr.UnaryOp.elim (motive_1:=fun _=>Bool) e h k else false
theorem Zna {m:Expr→Prop} {e:Expr} {k:PySem.UnaryOp→Expr→Pos→Bool} (h:onUn e k=true) (f:∀ o x p,k o x p=true→m (.UnaryOp o x p)):m e :=
 (dn h).elim fun q z=>Expr.UnaryOp.elim (motive_1:=fun e=>∀ q,Expr.UnaryOp.elim (motive_1:=fun _=>Bool) e q k=true→m e) e q (fun o x p _ z=>f o x p z) q z
noncomputable def onIf (e:Expr) (k:Expr→Expr→Expr→Pos→Bool):Bool:=if h:e.ctorIdx=5 then Expr.IfExp.elim (motive_1:=fun _=>Bool) e h k else false
theorem Ztr {m:Expr→Prop} {e:Expr} {k:Expr→Expr→Expr→Pos→Bool} (h:onIf e k=true) (f:∀ t x y p,k t x y p=true→m (.IfExp t x y p)):m e :=
 (dn h).elim fun q z=>Expr.IfExp.elim (motive_1:=fun e=>∀ q,Expr.IfExp.elim (motive_1:=fun _=>Bool) e q k=true→m e) e q (fun t x y p _ z=>f t x y p z) q z
noncomputable def Zva (e:Expr) (k:List (Option Expr)→List Expr→Pos→Bool):Bool:=if h:e.ctorIdx=6 then Expr.Dict.elim (motive_1:=fun _=>Bool) e h k else false
theorem Zdj {m:Expr→Prop} {e:Expr} {k:List (Option Expr)→List Expr→Pos→Bool} (h:Zva e k=true) (f:∀ ks vs p,k ks vs p=true→m (.Dict ks vs p)):m e :=
 (dn h).elim fun q z=>Expr.Dict.elim (motive_1:=fun e=>∀ q,Expr.Dict.elim (motive_1:=fun _=>Bool) e q k=true→m e) e q (fun ks vs p _ z=>f ks vs p z) q z
noncomputable def onLC (e:Expr) (k:Expr→List Comprehension→Scope→Pos→Bool):Bool:=if h:e.ctorIdx=8 then Expr.ListComp.elim (motive_1:=fun _=>Bool) e h k else false
theorem Ztq {m:Expr→Prop} {e:Expr} {k:Expr→List Comprehension→Scope→Pos→Bool} (h:onLC e k=true) (f:∀ x gs cs p,k x gs cs p=true→m (.ListComp x gs cs p)):m e :=
 (dn h).elim fun q z=>Expr.ListComp.elim (motive_1:=fun e=>∀ q,Expr.ListComp.elim (motive_1:=fun _=>Bool) e q k=true→m e) e q (fun x gs cs p _ z=>f x gs cs p z) q z
noncomputable def Zwi (e:Expr) (k:Expr→List CmpOp→List Expr→Pos→Bool):Bool:=if h:e.ctorIdx=15 then Expr.Compare.elim (motive_1:=fun _=>Bool) e h k else false
theorem Zkp {m:Expr→Prop} {e:Expr} {k:Expr→List CmpOp→List Expr→Pos→Bool} (h:Zwi e k=true) (f:∀ l os rs p,k l os rs p=true→m (.Compare l os rs p)):m e :=
 (dn h).elim fun q z=>Expr.Compare.elim (motive_1:=fun e=>∀ q,Expr.Compare.elim (motive_1:=fun _=>Bool) e q k=true→m e) e q (fun l os rs p _ z=>f l os rs p z) q z
noncomputable def Zkq (e:Expr) (k:Expr→List Expr→List Keyword→Pos→Bool):Bool:=if h:e.ctorIdx=16 then Expr.Call.elim (motive_1:=fun _=>Bool) e h k else false
theorem Zgc {m:Expr→Prop} {e:Expr} {k:Expr→List Expr→List Keyword→Pos→Bool} (h:Zkq e k=true) (f:∀ fe as ks p,k fe as ks p=true→m (.Call fe as ks p)):m e :=
 (dn h).elim fun q z=>Expr.Call.elim (motive_1:=fun e=>∀ q,Expr.Call.elim (motive_1:=fun _=>Bool) e q k=true→m e) e q (fun fe as ks p _ z=>f fe as ks p z) q z
noncomputable def Zqk (e:Expr) (k:Const→Nat→Pos→Bool):Bool:=if h:e.ctorIdx=19 then Expr.Constant.elim (motive_1:=fun _=>Bool) e h k else false
theorem Zhy {m:Expr→Prop} {e:Expr} {k:Const→Nat→Pos→Bool} (h:Zqk e k=true) (f:∀ c kd p,k c kd p=true→m (.Constant c kd p)):m e :=
 (dn h).elim fun q z=>Expr.Constant.elim (motive_1:=fun e=>∀ q,Expr.Constant.elim (motive_1:=fun _=>Bool) e q k=true→m e) e q (fun c kd p _ z=>f c kd p z) q z
noncomputable def Ziy (e:Expr) (k:Expr→Str→Pos→Bool):Bool:=if h:e.ctorIdx=20 then Expr.Attribute.elim (motive_1:=fun _=>Bool) e h k else false
theorem Zex {m:Expr→Prop} {e:Expr} {k:Expr→Str→Pos→Bool} (h:Ziy e k=true) (f:∀ v a p,k v a p=true→m (.Attribute v a p)):m e :=
 (dn h).elim fun q z=>Expr.Attribute.elim (motive_1:=fun e=>∀ q,Expr.Attribute.elim (motive_1:=fun _=>Bool) e q k=true→m e) e q (fun v a p _ z=>f v a p z) q z
noncomputable def Ztp (e:Expr) (k:Expr→Expr→Pos→Bool):Bool:=if h:e.ctorIdx=21 then Expr.Subscript.elim (motive_1:=fun _=>Bool) e h k else false
theorem Zko {m:Expr→Prop} {e:Expr} {k:Expr→Expr→Pos→Bool} (h:Ztp e k=true) (f:∀ v i p,k v i p=true→m (.Subscript v i p)):m e :=
 (dn h).elim fun q z=>Expr.Subscript.elim (motive_1:=fun e=>∀ q,Expr.Subscript.elim (motive_1:=fun _=>Bool) e q k=true→m e) e q (fun v i p _ z=>f v i p z) q z
noncomputable def Zix (e:Expr) (k:Str→Pos→Bool):Bool:=if h:e.ctorIdx=23 then Expr.Name.elim (motive_1:=fun _=>Bool) e h k else false
theorem Zcf {m:Expr→Prop} {e:Expr} {k:Str→Pos→Bool} (h:Zix e k=true) (f:∀ n p,k n p=true→m (.Name n p)):m e :=
 (dn h).elim fun q z=>Expr.Name.elim (motive_1:=fun e=>∀ q,Expr.Name.elim (motive_1:=fun _=>Bool) e q k=true→m e) e q (fun n p _ z=>f n p z) q z
noncomputable def Zu7 (e:Expr) (k:List Expr→Pos→Bool):Bool:=if h:e.ctorIdx=24 then Expr.List.elim (motive_1:=fun _=>Bool) e h k else false
theorem Zof {m:Expr→Prop} {e:Expr} {k:List Expr→Pos→Bool} (h:Zu7 e k=true) (f:∀ es p,k es p=true→m (.List es p)):m e :=
 (dn h).elim fun q z=>Expr.List.elim (motive_1:=fun e=>∀ q,Expr.List.elim (motive_1:=fun _=>Bool) e q k=true→m e) e q (fun es p _ z=>f es p z) q z
noncomputable def Zto (e:Expr) (k:List Expr→Nat→Pos→Bool):Bool:=if h:e.ctorIdx=25 then Expr.Tuple.elim (motive_1:=fun _=>Bool) e h k else false
theorem Zhx {m:Expr→Prop} {e:Expr} {k:List Expr→Nat→Pos→Bool} (h:Zto e k=true) (f:∀ es kd p,k es kd p=true→m (.Tuple es kd p)):m e :=
 (dn h).elim fun q z=>Expr.Tuple.elim (motive_1:=fun e=>∀ q,Expr.Tuple.elim (motive_1:=fun _=>Bool) e q k=true→m e) e q (fun es kd p _ z=>f es kd p z) q z
noncomputable def Zqf (e:Expr) (k:Option Expr→Option Expr→Option Expr→Pos→Bool):Bool:=if h:e.ctorIdx=26 then Expr.Slice.elim (motive_1:=fun _=>Bool) e h k else false
theorem Zl3 {m:Expr→Prop} {e:Expr} {k:Option Expr→Option Expr→Option Expr→Pos→Bool} (h:Zqf e k=true) (f:∀ l u t p,k l u t p=true→m (.Slice l u t p)):m e :=
 (dn h).elim fun q z=>Expr.Slice.elim (motive_1:=fun e=>∀ q,Expr.Slice.elim (motive_1:=fun _=>Bool) e q k=true→m e) e q (fun l u t p _ z=>f l u t p z) q z
section
variable {α:Type}
noncomputable def onC (l:List α) (k:α→List α→Bool):Bool:=match l with
 | []=>false
 | x::r=>k x r
theorem Zdq {m:List α→Prop} {l:List α} {k:α→List α→Bool} (h:onC l k=true) (f:∀ x r,k x r=true→m (x::r)):m l:=match l,h with
 | [],h=>Bool.noConfusion h
 | x::r,h=>f x r h
theorem Zca {m:List α→Prop} {l:List α} (h:l.isEmpty=true) (f:m []):m l:=match l,h with
 | [],_=>f
 | _::_,h=>Bool.noConfusion h
noncomputable def on1 (l:List α) (k:α→Bool):Bool:=onC l fun x r=>r.isEmpty&&k x
theorem Ze8 {m:List α→Prop} {l:List α} {k:α→Bool} (h:on1 l k=true) (f:∀ x,k x=true→m [x]):m l :=
 Zdq h fun x _ h=>Zca (m:=fun r=>m (x::r)) (and2 h).1 (f x (and2 h).2)
noncomputable def on2 (l:List α) (k:α→α→Bool):Bool:=onC l fun x r=>on1 r (k x)
theorem Zl5 {m:List α→Prop} {l:List α} {k:α→α→Bool} (h:on2 l k=true) (f:∀ x y,k x y=true→m [x,y]):m l :=
 Zdq h fun x _ h=>Ze8 (m:=fun r=>m (x::r)) h (f x)
noncomputable def Ziw (o:Option α) (k:α→Bool):Bool:=match o with
 | none=>false
 | some x=>k x
theorem Zew {m:Option α→Prop} {o:Option α} {k:α→Bool} (h:Ziw o k=true) (f:∀ x,k x=true→m (some x)):m o:=match o,h with
 | none,h=>Bool.noConfusion h
 | some x,h=>f x h
end
noncomputable def Zi2 (sc:Scope) (id:Str):Bool:=match sc.names.lookup id with
 | some .local=>true
 | some .cell=>true
 | some .free=>true
 | _=>false
noncomputable def Zq8 (sc:Scope) (id:Str):Bool:=sc.names.lookup id==some .globalImplicit
noncomputable def Zdz (id:Str):Bool:=!(id==("__debug__":Str))&&!(id==("__classdict__":Str))
noncomputable def Zf2 (e:Expr):Bool:=e.ctorIdx != 16||Zkq e fun f _ _ _=>Ziy f fun _ _ _=>true
noncomputable def Zhz (e:Expr):Bool:=e.ctorIdx != 26
noncomputable def Zc3 (e:Expr):Bool:=e.ctorIdx != 22
noncomputable def Zb5 (sc:Scope) (n:String) (e:Expr):Bool:=Zix e fun id _=>id==ofString n&&Zq8 sc id&&Zdz id
noncomputable def Ziz (e:Expr):Bool:=e.ctorIdx != 7
noncomputable def isLC (e:Expr):Bool:=e.ctorIdx==8
noncomputable def Zzc (v:AV) (cc:Const):Bool:=match v with
 | .none=>cc==.none
 | .bool a=>cc==.bool a
 | .int a=>cc==.int a
 | .str a=>cc==.str a&&PyData.strOk a
 | .ref _=>false
noncomputable def Zq9 (e:X):Bool:=e.ctorIdx==(X.comp (.var 0) 0 false (.var 0) none).ctorIdx
noncomputable def Zdy (nm:List Str) (ts:List Str):List Str:=nm.map fun x=>if ts.contains x then ⟨#[]⟩ else x
noncomputable def Zdd:List Expr→List Str→Bool
 | [],ts=>ts.isEmpty
 | e::r,ts=>onC ts fun t q=>(Zix e fun id _=>id==t)&&Zdd r q
noncomputable def Zy3 (e:Expr):Str:=if h:e.ctorIdx=23 then Expr.Name.elim (motive_1:=fun _=>Str) e h (fun n _=>n) else ⟨#[]⟩
inductive TgN:Expr→Bool→List Str→Prop
 | name {t p}:TgN (.Name t p) false [t]
 | tup {es k p ts}:Zdd es ts=true→TgN (.Tuple es k p) true ts
noncomputable def Zct (sc csc:Scope) (nm ts:List Str):Bool :=
 csc.kind==.function&&ts.all (fun t=>csc.names.lookup t==some .local&&t.length != 0&&Zdz t)&&decide ts.Nodup&&!nm.contains (ofString ".0") &&
 csc.names.all (fun p=>p.2 != .cell&&(p.2 != .local||(csc.names.lookup p.1==some .local&&(ts.contains p.1||p.1==ofString ".0")))&&(p.2 != .free||(sc.names.lookup p.1==some .cell&&nm.contains p.1&&csc.names.lookup p.1==some .free))&&p.1.length != 0)
abbrev EB:=Expr→Bool
section
variable {m:Expr→Prop} {e:Expr} {sc:Scope} {nm:List Str} {a b c d i:EB} {xs:List Expr→Bool}
theorem Znd {n:String} (h:Zb5 sc n e=true) (f:∀ id p,Zb5 sc n (.Name id p)=true→m (.Name id p)):m e:=Zcf h f
noncomputable def mLit (v:AV) (e:Expr):Bool:=Zqk e fun cc _ _=>Zzc v cc
noncomputable def mVar (sc:Scope) (nm:List Str) (i:Nat) (e:Expr):Bool:=Zix e fun id _=>nm[i]?==some id&&Zi2 sc id&&Zdz id
theorem Ztv {i:Nat} (h:mVar sc nm i e=true) (f:∀ id p,nm[i]? = some id→Zi2 sc id=true→Zdz id=true→m (.Name id p)):m e :=
 Zcf h fun id p h=>have h2:=and2 h;have h1:=and2 h2.1;f id p (eq_of_beq h1.1) h1.2 h2.2
noncomputable def mBin (op:Operator) (a b:EB) (e:Expr):Bool:=Zyu e fun l op' r _=>op'==op&&a l&&b r
theorem Zt2 {op:Operator} (h:mBin op a b e=true) (f:∀ l r p,a l=true→b r=true→m (.BinOp l op r p)):m e :=
 Zql h fun l _ r p h=>have h2:=and2 h;have h1:=and2 h2.1;eq_of_beq h1.1▸f l r p h1.2 h2.2
noncomputable def mNeg (a:EB) (e:Expr):Bool:=onUn e fun o x _=>o==.USub&&a x
theorem Zty (h:mNeg a e=true) (f:∀ x p,a x=true→m (.UnaryOp .USub x p)):m e :=
 Zna h fun _ x p h=>eq_of_beq (and2 h).1▸f x p (and2 h).2
noncomputable def mNot (a:EB) (e:Expr):Bool:=onUn e fun o x _=>o==.Not&&a x
theorem Ztx (h:mNot a e=true) (f:∀ x p,a x=true→m (.UnaryOp .Not x p)):m e :=
 Zna h fun _ x p h=>eq_of_beq (and2 h).1▸f x p (and2 h).2
noncomputable def mAo (isAnd:Bool) (xs:List Expr→Bool) (e:Expr):Bool:=Zvb e fun op vs _=>(op==(if isAnd then PySem.BoolOp.And else PySem.BoolOp.Or))&&xs vs
theorem Zws {isAnd:Bool} (h:mAo isAnd xs e=true) (f:∀ vs p,xs vs=true→m (.BoolOp (if isAnd then PySem.BoolOp.And else PySem.BoolOp.Or) vs p)):m e :=
 Zoi h fun _ vs p h=>eq_of_beq (and2 h).1▸f vs p (and2 h).2
noncomputable def mIte (c a b:EB) (e:Expr):Bool:=onIf e fun t x y _=>c t&&a x&&b y
theorem Ztz (h:mIte c a b e=true) (f:∀ t x y p,c t=true→a x=true→b y=true→m (.IfExp t x y p)):m e :=
 Ztr h fun t x y p h=>have h2:=and2 h;have h1:=and2 h2.1;f t x y p h1.1 h1.2 h2.2
noncomputable def mCmp (op:CmpOp) (a b:EB) (e:Expr):Bool:=Zwi e fun l os rs _=>on1 os fun op'=>on1 rs fun r=>op'==op&&!behindInMarks op' r&&a l&&b r
theorem not1 {b:Bool} (h:(!b)=true):b=false:=match b,h with
 | false,_=>rfl
 | true,h=>Bool.noConfusion h
theorem Zt1 {op:CmpOp} (h:mCmp op a b e=true) (f:∀ l r p,behindInMarks op r=false→a l=true→b r=true→m (.Compare l [op] [r] p)):m e :=
 Zkp h fun l os rs p h=>Ze8 (m:=fun os=>m (.Compare l os rs p)) h fun o h=>Ze8 (m:=fun rs=>m (.Compare l [o] rs p)) h fun r h =>
  have h2:=and2 h;have h1:=and2 h2.1;have h0:=and2 h1.1;eq_of_beq h0.1▸f l r p (eq_of_beq h0.1▸not1 h0.2) h1.2 h2.2
noncomputable def Zy7 (op₁ op₂:CmpOp) (a b d:EB) (e:Expr):Bool:=Zwi e fun l os rs _=>on2 os fun o₁ o₂=>on2 rs fun r₁ r₂=>(o₁==op₁&&o₂==op₂)&&(!lastMarks [op₁,op₂] [r₁,r₂]&&a l&&b r₁&&d r₂)
theorem Zqz {op₁ op₂:CmpOp} (h:Zy7 op₁ op₂ a b d e=true) (f:∀ l r₁ r₂ p,lastMarks [op₁,op₂] [r₁,r₂]=false→a l=true→b r₁=true→d r₂=true→m (.Compare l [op₁,op₂] [r₁,r₂] p)):m e :=
 Zkp h fun l os rs p h=>Zl5 (m:=fun os=>m (.Compare l os rs p)) h fun o₁ o₂ h=>Zl5 (m:=fun rs=>m (.Compare l [o₁,o₂] rs p)) h fun r₁ r₂ h =>
  have h4:=and2 h;have h3:=and2 h4.2;have h2:=and2 h3.1;have h1:=and2 h2.1;eq_of_beq (and2 h4.1).1▸eq_of_beq (and2 h4.1).2▸f l r₁ r₂ p (not1 h1.1) h1.2 h2.2 h3.2
noncomputable def mSub (a i:EB) (e:Expr):Bool:=Ztp e fun v sl _=>Zhz sl&&a v&&i sl
theorem Zng (h:mSub a i e=true) (f:∀ v sl p,Zhz sl=true→a v=true→i sl=true→m (.Subscript v sl p)):m e :=
 Zko h fun v sl p h=>have h2:=and2 h;have h1:=and2 h2.1;f v sl p h1.1 h1.2 h2.2
noncomputable def Zvk (a:EB) (lo hi st:Option Expr→Bool) (e:Expr):Bool:=Ztp e fun v sl _=>Zqf sl fun l u t _=>a v&&lo l&&hi u&&st t
theorem Zoo {lo hi st:Option Expr→Bool} (h:Zvk a lo hi st e=true) (f:∀ v l u t p q,a v=true→lo l=true→hi u=true→st t=true→m (.Subscript v (.Slice l u t p) q)):m e :=
 Zko h fun v sl q h=>Zl3 (m:=fun sl=>m (.Subscript v sl q)) h fun l u t p h=>have h3:=and2 h;have h2:=and2 h3.1;have h1:=and2 h2.1;f v l u t p q h1.1 h1.2 h2.2 h3.2
noncomputable def Zy8 (a:EB) (n:String) (e:Expr):Bool:=Ziy e fun v at' _=>at'==ofString n&&Zf2 v&&a v
theorem Zq1 {n:String} (h:Zy8 a n e=true) (f:∀ v p,Zf2 v=true→a v=true→m (.Attribute v (ofString n) p)):m e :=
 Zex h fun v _ p h=>have h2:=and2 h;have h1:=and2 h2.1;eq_of_beq h1.1▸f v p h1.2 h2.2
noncomputable def Zq0 (sc:Scope) (ok:Bool) (f:String) (xs:List Expr→Bool) (e:Expr):Bool:=Zkq e fun fe args ks _=>ks.isEmpty&&Zb5 sc f fe&&ok&&xs args
theorem Zft {ok:Bool} {n:String} (h:Zq0 sc ok n xs e=true) (f:∀ fe args p,Zb5 sc n fe=true→ok=true→xs args=true→m (.Call fe args [] p)):m e :=
 Zgc h fun fe args _ p h=>have h3:=and2 h;have h2:=and2 h3.1;have h1:=and2 h2.1;Zca (m:=fun ks=>m (.Call fe args ks p)) h1.1 (f fe args p h1.2 h2.2 h3.2)
noncomputable def Zwq (n:String) (a:EB) (xs:List Expr→Bool) (e:Expr):Bool:=Zkq e fun fe args ks pos=>Ziy fe fun o name apos=>(ks.isEmpty&&name==ofString n)&&((apos.endLine==pos.line)&&Zf2 o&&decide (args.length<29)&&a o&&xs args)
theorem Zkt {n:String} (h:Zwq n a xs e=true) (f:∀ o apos args pos,(apos.endLine==pos.line)=true→Zf2 o=true→args.length<29→a o=true→xs args=true→m (.Call (.Attribute o (ofString n) apos) args [] pos)):m e :=
 Zgc h fun fe args ks pos h=>Zex (m:=fun fe=>m (.Call fe args ks pos)) h fun o _ apos h =>
  have h5:=and2 h;have h0:=and2 h5.1;have h4:=and2 h5.2;have h3:=and2 h4.1;have h2:=and2 h3.1;have h1:=and2 h2.1
  eq_of_beq h0.2▸Zca (m:=fun ks=>m (.Call (.Attribute o _ apos) args ks pos)) h0.1 (eq_of_beq h0.2▸f o apos args pos h1.1 h1.2 (of_decide_eq_true h2.2) h3.2 h4.2)
noncomputable def mIsi (P:Pg) (sc:Scope) (a:EB) (ty:String) (e:Expr):Bool:=Zkq e fun fe args ks _=>on2 args fun x t=>(ks.isEmpty&&Zc3 x)&&(Zb5 sc "isinstance" fe&&P.prims.contains "isinstance"&&(P.prims.contains ty&&["int","bool","str","list"].contains ty)&&Zb5 sc ty t&&a x)
theorem Zt0 {P:Pg} {ty:String} (h:mIsi P sc a ty e=true) (f:∀ fe x t p,Zc3 x=true→Zb5 sc "isinstance" fe=true→P.prims.contains "isinstance" = true→(P.prims.contains ty&&["int","bool","str","list"].contains ty)=true→Zb5 sc ty t=true→a x=true→m (.Call fe [x,t] [] p)):m e :=
 Zgc h fun fe args ks p h=>Zl5 (m:=fun args=>m (.Call fe args ks p)) h fun x t h =>
  have h5:=and2 h;have h0:=and2 h5.1;have h4:=and2 h5.2;have h3:=and2 h4.1;have h2:=and2 h3.1;have h1:=and2 h2.1
  Zca (m:=fun ks=>m (.Call fe [x,t] ks p)) h0.1 (f fe x t p h0.2 h1.1 h1.2 h2.2 h3.2 h4.2)
noncomputable def Zy5 (xs:List Expr→Bool) (e:Expr):Bool:=Zu7 e fun es _=>xs es&&decide (es.length<1000)
theorem Zqy (h:Zy5 xs e=true) (f:∀ es p,xs es=true→es.length<1000→m (.List es p)):m e :=
 Zof h fun es p h=>f es p (and2 h).1 (of_decide_eq_true (and2 h).2)
noncomputable def mTup (xs:List Expr→Bool) (e:Expr):Bool:=Zto e fun es _ _=>xs es&&decide (es.length<1000)
theorem Ztw (h:mTup xs e=true) (f:∀ es k p,xs es=true→es.length<1000→m (.Tuple es k p)):m e :=
 Zhx h fun es k p h=>f es k p (and2 h).1 (of_decide_eq_true (and2 h).2)
noncomputable def Zwr (ks vs:List X) (mk:List (Option Expr)→Bool) (mv:List Expr→Bool) (e:Expr):Bool:=Zva e fun ks' vs' _=>match ks,vs with
 | [],[]=>ks'.isEmpty&&vs'.isEmpty
 | [_],[_]=>mk ks'&&mv vs'
 | _,_=>false
theorem Zoq {mk:List (Option Expr)→Bool} {mv:List Expr→Bool} (h:Zwr [] [] mk mv e=true) (f:∀ p,m (.Dict [] [] p)):m e :=
 Zdj h fun ks vs p h=>Zca (m:=fun ks=>m (.Dict ks vs p)) (and2 h).1 (Zca (m:=fun vs=>m (.Dict [] vs p)) (and2 h).2 (f p))
theorem Zop {k v:X} {mk:List (Option Expr)→Bool} {mv:List Expr→Bool} (h:Zwr [k] [v] mk mv e=true) (f:∀ ks vs p,mk ks=true→mv vs=true→m (.Dict ks vs p)):m e :=
 Zdj h fun ks vs p h=>f ks vs p (and2 h).1 (and2 h).2
noncomputable def goOk (k:Nat) (sc csc:Scope) (nm:List Str) (it:EB) (x:Scope→List Str→EB) (c:Scope→List Str→List Expr→Bool) (elt iter:Expr) (ifs:List Expr) (ia:Int) (ts:List Str):Bool :=
 (ia==0&&k==ts.length)&&(Ziz iter&&it iter&&Zct sc csc nm ts&&x csc (Zdy nm ts++ts) elt&&c csc (Zdy nm ts++ts) ifs)
noncomputable def Zy6 (top tup:Bool) (k:Nat) (sc:Scope) (nm:List Str) (it:EB) (x:Scope→List Str→EB) (c:Scope→List Str→List Expr→Bool) (e:Expr):Bool:=top&&(onLC e fun elt gs csc _=>on1 gs fun g =>
 match tup with
 | false=>Zix g.target fun t _=>goOk k sc csc nm it x c elt g.iter g.ifs g.is_async [t]
 | true=>Zto g.target fun es _ _=>Zdd es (es.map Zy3)&&goOk k sc csc nm it x c elt g.iter g.ifs g.is_async (es.map Zy3))
structure Zvr (k:Nat) (sc csc:Scope) (nm ts:List Str) (it:EB) (x:Scope→List Str→EB) (c:Scope→List Str→List Expr→Bool) (elt iter:Expr) (ifs:List Expr):Prop where
 len:k=ts.length
 set:Ziz iter=true
 it:it iter=true
 sc:Zct sc csc nm ts=true
 x:x csc (Zdy nm ts++ts) elt=true
 c:c csc (Zdy nm ts++ts) ifs=true
theorem Znp {tup:Bool} {k:Nat} {it:EB} {x:Scope→List Str→EB} {c:Scope→List Str→List Expr→Bool} {csc:Scope} {elt tg iter:Expr} {ifs:List Expr} {ia:Int} {p:Pos} {ts:List Str}
  (f:∀ elt tg iter ifs csc ts p,TgN tg tup ts→Zvr k sc csc nm ts it x c elt iter ifs→m (.ListComp elt [⟨tg,iter,ifs,0⟩] csc p)) (ht:TgN tg tup ts) (h:goOk k sc csc nm it x c elt iter ifs ia ts=true):m (.ListComp elt [⟨tg,iter,ifs,ia⟩] csc p) :=
 have h5:=and2 h;have h0:=and2 h5.1;have h4:=and2 h5.2;have h3:=and2 h4.1;have h2:=and2 h3.1;have h1:=and2 h2.1
 eq_of_beq h0.1▸f elt tg iter ifs csc ts p ht ⟨eq_of_beq h0.2,h1.1,h1.2,h2.2,h3.2,h4.2⟩
theorem Zku {top tup:Bool} {k:Nat} {it:EB} {x:Scope→List Str→EB} {c:Scope→List Str→List Expr→Bool} (h:Zy6 top tup k sc nm it x c e=true)
  (f:∀ elt tg iter ifs csc ts p,TgN tg tup ts→Zvr k sc csc nm ts it x c elt iter ifs→m (.ListComp elt [⟨tg,iter,ifs,0⟩] csc p)):m e:=by
 refine Ztq (and2 h).2 fun elt gs csc p h=>Ze8 (m:=fun gs=>m (.ListComp elt gs csc p)) h fun G h=>?_;cases G with
 | mk tg iter ifs ia =>
 cases tup with
 | false=>exact Zcf (m:=fun tg=>m (.ListComp elt [⟨tg,iter,ifs,ia⟩] csc p)) h fun _ _ h=>Znp f .name h
 | true=>exact Zhx (m:=fun tg=>m (.ListComp elt [⟨tg,iter,ifs,ia⟩] csc p)) h fun _ _ _ h=>Znp f (.tup (and2 h).1) (and2 h).2
end
mutual
noncomputable def mtX (P:Pg) (top:Bool) (sc:Scope) (nm:List Str):X→Expr→Bool
 | .lit v,e=>mLit v e
 | .var i,e=>mVar sc nm i e
 | .glob n,e=>Zb5 sc n e
 | .bin op a b,e=>mBin op (mtX P top sc nm a) (mtX P top sc nm b) e
 | .neg a,e=>mNeg (mtX P top sc nm a) e
 | .not a,e=>mNot (mtX P top sc nm a) e
 | .ao isAnd xs,e=>mAo isAnd (mtXs P top sc nm xs) e
 | .ite c a b,e=>mIte (mtX P top sc nm c) (mtX P top sc nm a) (mtX P top sc nm b) e
 | .cmp op a b,e=>mCmp op (mtX P top sc nm a) (mtX P top sc nm b) e
 | .cmp2 op₁ op₂ a b d,e=>Zy7 op₁ op₂ (mtX P top sc nm a) (mtX P top sc nm b) (mtX P top sc nm d) e
 | .sub a i,e=>mSub (mtX P top sc nm a) (mtX P top sc nm i) e
 | .slice a lo hi st,e=>Zvk (mtX P top sc nm a) (mtO P top sc nm lo) (mtO P top sc nm hi) (mtO P top sc nm st) e
 | .attr a n,e=>Zy8 (mtX P top sc nm a) n e
 | .call f xs,e=>Zq0 sc (P.gfns.contains f) f (mtXs P top sc nm xs) e
 | .new cl xs,e=>Zq0 sc (P.classes.contains cl) cl (mtXs P top sc nm xs) e
 | .meth a m xs,e=>Zwq m (mtX P top sc nm a) (mtXs P top sc nm xs) e
 | .bm a m xs,e=>Zwq m.str (mtX P top sc nm a) (mtXs P top sc nm xs) e
 | .prim f xs,e=>Zq0 sc (P.prims.contains f.str) f.str (mtXs P top sc nm xs) e
 | .isinst a ty,e=>mIsi P sc (mtX P top sc nm a) ty e
 | .list xs,e=>Zy5 (mtXs P top sc nm xs) e
 | .tuple xs,e=>mTup (mtXs P top sc nm xs) e
 | .dict ks vs,e=>Zwr ks vs (mtOs P top sc nm ks) (mtXs P top sc nm vs) e
 | .comp x k tup it c,e=>Zy6 top tup k sc nm (mtX P top sc nm it) (fun csc nm'=>mtX P false csc nm' x) (fun csc nm'=>mtC P csc nm' c) e
noncomputable def mtXs (P:Pg) (top:Bool) (sc:Scope) (nm:List Str):List X→List Expr→Bool
 | [],es=>es.isEmpty
 | x::r,es=>onC es fun e q=>mtX P top sc nm x e&&Zc3 e&&mtXs P top sc nm r q
noncomputable def mtO (P:Pg) (top:Bool) (sc:Scope) (nm:List Str):Option X→Option Expr→Bool
 | none,e=>e.isNone
 | some x,e=>Ziw e fun e=>mtX P top sc nm x e
noncomputable def mtOs (P:Pg) (top:Bool) (sc:Scope) (nm:List Str):List X→List (Option Expr)→Bool
 | [],es=>es.isEmpty
 | x::r,es=>onC es fun o q=>(Ziw o fun e=>mtX P top sc nm x e)&&mtOs P top sc nm r q
noncomputable def mtC (P:Pg) (sc:Scope) (nm:List Str):Option X→List Expr→Bool
 | none,es=>es.isEmpty
 | some x,es=>on1 es fun e=>mtX P false sc nm x e
end
noncomputable def Zee (sc:Scope) (id:Str):Bool:=match sc.names.lookup id with
 | some .local=>true
 | some .cell=>true
 | _=>false
theorem Zkw {sc:Scope} {id:Str} (h:Zi2 sc id=true):sc.names.lookup id=some .local∨sc.names.lookup id=some .cell∨sc.names.lookup id=some .free:=by
 unfold Zi2 at h;revert h;cases sc.names.lookup id with
 | none=>exact fun h=>Bool.noConfusion h
 | some k=>cases k<;>first | exact fun _=>.inl rfl | exact fun _=>.inr (.inl rfl) | exact fun _=>.inr (.inr rfl) | exact fun h=>Bool.noConfusion h
theorem Zi1 {sc:Scope} {id:Str} (h:Zee sc id=true):sc.names.lookup id=some .local∨sc.names.lookup id=some .cell:=by
 unfold Zee at h;revert h;cases sc.names.lookup id with
 | none=>exact fun h=>Bool.noConfusion h
 | some k=>cases k<;>first | exact fun _=>.inl rfl | exact fun _=>.inr rfl | exact fun h=>Bool.noConfusion h
inductive OVW:Option AV→Option Value→Prop
 | none {x}:OVW Option.none x
 | some {a v}:VR a v→OVW (Option.some a) (Option.some v)
structure Frm (R:RR) (env:Env) (sc:Scope) (nm:List Str) (V:VV):Prop where
 kind:env.scope.kind = .function
 glob:env.globals=mainGlobals
 blt:env.builtins=builtinsNs
 sco:∀ id,Zq8 sc id=true→env.kindOf id=some .globalImplicit
 kok:∀ id,Zi2 sc id=true→env.kindOf id=some .local∨env.kindOf id=some .cell∨env.kindOf id=some .free
 lok:∀ id,Zee sc id=true→env.kindOf id=some .local∨env.kindOf id=some .cell
 lco:∀ id,sc.names.lookup id=some .local→env.kindOf id=some .local
 cco:∀ id,sc.names.lookup id=some .cell→env.kindOf id=some .cell
 len:V.length=nm.length
 inj:∀ n n' a,env.cells.lookup n=some a→env.cells.lookup n'=some a→n=n'
 ns:∃ m,R env.locals=some (.ns m)∧∀ (i:Nat) n,nm[i]? = some n→env.kindOf n=some .local→∃ v,V[i]? = some v∧OVW v (m n)
 cell:∀ (i:Nat) n,nm[i]? = some n→(env.kindOf n=some .cell∨env.kindOf n=some .free)→∃ a x v,env.cells.lookup n=some a∧R a=some (.cell x)∧V[i]? = some v∧OVW v x
noncomputable def veM:List Value:=[.type "ValueError",.type "Exception",.type "BaseException",.type "object"]
noncomputable def typeNames:List String:=["int","bool","str","list"]
structure PgOk (c:Cx):Prop where
 fn:∀ f,c.P.gfns.contains f=true→nsIn c.K mainGlobals (ofString f)=some (some (.ref (c.fa f)))∧keepIn c.K (.ref (c.fa f))=true
 cls:∀ cl,c.P.classes.contains cl=true→nsIn c.K mainGlobals (ofString cl)=some (some (.ref (c.ca cl)))∧keepIn c.K (.ref (c.ca cl))=true∧makesIn c.K (c.ca cl)=true ∧
  findIn c.K (.ref (c.ca cl)) "__init__" = some (some (.ref (c.fa (cl++".__init__"))))∧isFn c.K (.ref (c.fa (cl++".__init__")))=true
 meth:∀ cl m,c.P.meths.contains (cl,m)=true→plainGet c.K (c.ca cl) (ofString m)=true∧findIn c.K (.ref (c.ca cl)) (ofString m)=some (some (.ref (c.fa (cl++"."++m))))∧isFn c.K (.ref (c.fa (cl++"."++m)))=true ∧
  keepIn c.K (.ref (c.fa (cl++"."++m)))=true
 attr:∀ cl n,c.P.attrs.contains (cl,n)=true→plainGet c.K (c.ca cl) (ofString n)=true∧hasDictIn c.K (c.ca cl)=true∧findIn c.K (.ref (c.ca cl)) (ofString n)=some none ∧
  findIn c.K (.ref (c.ca cl)) "__setattr__" = some (some (.builtin "object.__setattr__"))∧plainOver c.K (c.ca cl)=true∧takerIn c.K (c.ca cl) (ofString n)=some none
 prim:∀ f,c.P.prims.contains f=true→nsIn c.K mainGlobals (ofString f)=some none∧(ofString f==ofString "__name__")=false∧bootBuiltins (ofString f)=some (Zg1 f)
 excR:∀ cl,(c.P.excs.lookup cl).isSome=true→nsIn c.K mainGlobals (ofString cl)=some (some (.ref (c.ca cl)))∧excIn c.K (c.ca cl) veM "ValueError.__new__" = true∧instIn c.K (.ref (c.ca cl)) (.type "tuple")=some false∧subIn c.K (.ref (c.ca cl)) (.type "BaseException")=some true∧(clsIn c.K (c.ca cl)).isSome=true ∧
  typeIn c.K (.ref (c.ca cl))=some (.type "type")∧instIn c.K (.ref (c.ca cl)) (.type "type")=some true∧typeNames.contains cl=false
 excC:∀ cl d,(c.P.excs.lookup cl).isSome=true→(c.P.excs.lookup d).isSome=true→subIn c.K (.ref (c.ca cl)) (.ref (c.ca d))=some (Zla c.P cl d)
 const:∀ n v,c.P.consts.lookup n=some v→∃ x,nsIn c.K mainGlobals (ofString n)=some (some x)∧VR v x
end Mine
namespace Mine
noncomputable def Zyq (e:Stmt) (k:Option Expr→Pos→Bool):Bool:=if h:e.ctorIdx=3 then Stmt.Return.elim (motive_2:=fun _=>Bool) e h k else false
theorem Zqg {m:Stmt→Prop} {e:Stmt} {k:Option Expr→Pos→Bool} (h:Zyq e k=true) (f:∀ v p,k v p=true→m (.Return v p)):m e :=
 (dn h).elim fun q z=>Stmt.Return.elim (motive_2:=fun e=>∀ q,Stmt.Return.elim (motive_2:=fun _=>Bool) e q k=true→m e) e q (fun v p _ z=>f v p z) q z
noncomputable def Zyv (e:Stmt) (k:List Expr→Expr→Pos→Bool):Bool:=if h:e.ctorIdx=5 then Stmt.Assign.elim (motive_2:=fun _=>Bool) e h k else false
theorem Zqm {m:Stmt→Prop} {e:Stmt} {k:List Expr→Expr→Pos→Bool} (h:Zyv e k=true) (f:∀ ts v p,k ts v p=true→m (.Assign ts v p)):m e :=
 (dn h).elim fun q z=>Stmt.Assign.elim (motive_2:=fun e=>∀ q,Stmt.Assign.elim (motive_2:=fun _=>Bool) e q k=true→m e) e q (fun ts v p _ z=>f ts v p z) q z
noncomputable def Zyt (e:Stmt) (k:Expr→Expr→List Stmt→List Stmt→Pos→Bool):Bool:=if h:e.ctorIdx=9 then Stmt.For.elim (motive_2:=fun _=>Bool) e h k else false
theorem Zqj {m:Stmt→Prop} {e:Stmt} {k:Expr→Expr→List Stmt→List Stmt→Pos→Bool} (h:Zyt e k=true) (f:∀ t i b o p,k t i b o p=true→m (.For t i b o p)):m e :=
 (dn h).elim fun q z=>Stmt.For.elim (motive_2:=fun e=>∀ q,Stmt.For.elim (motive_2:=fun _=>Bool) e q k=true→m e) e q (fun t i b o p _ z=>f t i b o p z) q z
noncomputable def Zqc (e:Stmt) (k:Expr→List Stmt→List Stmt→Pos→Bool):Bool:=if h:e.ctorIdx=11 then Stmt.While.elim (motive_2:=fun _=>Bool) e h k else false
theorem Zl1 {m:Stmt→Prop} {e:Stmt} {k:Expr→List Stmt→List Stmt→Pos→Bool} (h:Zqc e k=true) (f:∀ t b o p,k t b o p=true→m (.While t b o p)):m e :=
 (dn h).elim fun q z=>Stmt.While.elim (motive_2:=fun e=>∀ q,Stmt.While.elim (motive_2:=fun _=>Bool) e q k=true→m e) e q (fun t b o p _ z=>f t b o p z) q z
noncomputable def Zys (e:Stmt) (k:Expr→List Stmt→List Stmt→Pos→Bool):Bool:=if h:e.ctorIdx=12 then Stmt.If.elim (motive_2:=fun _=>Bool) e h k else false
theorem Zqi {m:Stmt→Prop} {e:Stmt} {k:Expr→List Stmt→List Stmt→Pos→Bool} (h:Zys e k=true) (f:∀ t b o p,k t b o p=true→m (.If t b o p)):m e :=
 (dn h).elim fun q z=>Stmt.If.elim (motive_2:=fun e=>∀ q,Stmt.If.elim (motive_2:=fun _=>Bool) e q k=true→m e) e q (fun t b o p _ z=>f t b o p z) q z
noncomputable def onRaise (e:Stmt) (k:Option Expr→Option Expr→Pos→Bool):Bool:=if h:e.ctorIdx=16 then Stmt.Raise.elim (motive_2:=fun _=>Bool) e h k else false
theorem Zl4 {m:Stmt→Prop} {e:Stmt} {k:Option Expr→Option Expr→Pos→Bool} (h:onRaise e k=true) (f:∀ x c p,k x c p=true→m (.Raise x c p)):m e :=
 (dn h).elim fun q z=>Stmt.Raise.elim (motive_2:=fun e=>∀ q,Stmt.Raise.elim (motive_2:=fun _=>Bool) e q k=true→m e) e q (fun x c p _ z=>f x c p z) q z
noncomputable def Zyp (e:Stmt) (k:List Stmt→List ExceptHandler→List Stmt→List Stmt→Pos→Bool):Bool:=if h:e.ctorIdx=17 then Stmt.Try.elim (motive_2:=fun _=>Bool) e h k else false
theorem Zqd {m:Stmt→Prop} {e:Stmt} {k:List Stmt→List ExceptHandler→List Stmt→List Stmt→Pos→Bool} (h:Zyp e k=true) (f:∀ b hs o fi p,k b hs o fi p=true→m (.Try b hs o fi p)):m e :=
 (dn h).elim fun q z=>Stmt.Try.elim (motive_2:=fun e=>∀ q,Stmt.Try.elim (motive_2:=fun _=>Bool) e q k=true→m e) e q (fun b hs o fi p _ z=>f b hs o fi p z) q z
noncomputable def Zu9 (e:Stmt) (k:Expr→Pos→Bool):Bool:=if h:e.ctorIdx=24 then Stmt.Expr.elim (motive_2:=fun _=>Bool) e h k else false
theorem Zoh {m:Stmt→Prop} {e:Stmt} {k:Expr→Pos→Bool} (h:Zu9 e k=true) (f:∀ v p,k v p=true→m (.Expr v p)):m e :=
 (dn h).elim fun q z=>Stmt.Expr.elim (motive_2:=fun e=>∀ q,Stmt.Expr.elim (motive_2:=fun _=>Bool) e q k=true→m e) e q (fun v p _ z=>f v p z) q z
noncomputable def Zu6 (e:Stmt) (k:Pos→Bool):Bool:=if h:e.ctorIdx=25 then Stmt.Pass.elim (motive_2:=fun _=>Bool) e h k else false
theorem Zoe {m:Stmt→Prop} {e:Stmt} {k:Pos→Bool} (h:Zu6 e k=true) (f:∀ p,k p=true→m (.Pass p)):m e :=
 (dn h).elim fun q z=>Stmt.Pass.elim (motive_2:=fun e=>∀ q,Stmt.Pass.elim (motive_2:=fun _=>Bool) e q k=true→m e) e q (fun p _ z=>f p z) q z
noncomputable def Ze9 (e:Expr):Bool:=e.ctorIdx != 8&&e.ctorIdx != 9&&e.ctorIdx != 10&&e.ctorIdx != 7
noncomputable def Zn1 (sc:Scope) (nm:List Str) (i:Nat) (e:Expr):Bool:=Zix e fun id _=>nm[i]?==some id&&Zee sc id
theorem Zhe {sc:Scope} {nm:List Str} {i:Nat} {m:Expr→Prop} {e:Expr} (h:Zn1 sc nm i e=true) (f:∀ id p,nm[i]? = some id→Zee sc id=true→m (.Name id p)):m e :=
 Zcf h fun id p h=>f id p (eq_of_beq (and2 h).1) (and2 h).2
noncomputable def Zig (sc:Scope) (nm:List Str):List Nat→List Expr→Bool
 | [],es=>es.isEmpty
 | i::is,es=>onC es fun e r=>Zn1 sc nm i e&&Zig sc nm is r
noncomputable def Zpe (sc:Scope) (nm:List Str) (is:List Nat) (e:Expr):Bool:=Zto e fun es _ _=>Zig sc nm is es
noncomputable def tgOk (sc:Scope) (nm:List Str) (t:Tg) (e:Expr):Bool:=match t with
 | .var i=>Zn1 sc nm i e
 | .tup is=>Zpe sc nm is e
noncomputable def Zkr (e:Expr):Bool:=e.ctorIdx != 25
noncomputable def mtT (P:Pg) (sc:Scope) (nm:List Str) (t:T) (e:Expr):Bool:=match t with
 | .var i=>Zn1 sc nm i e
 | .sub a i=>Ztp e fun v sl _=>Zhz sl&&mtX P true sc nm a v&&mtX P true sc nm i sl
 | .attr a n=>Ziy e fun v at' _=>at'==ofString n&&mtX P true sc nm a v
 | .tup is=>Zpe sc nm is e
noncomputable def Zl6:T→Bool
 | .tup _=>false
 | _=>true
noncomputable def Zy4 (msg:Str) (es:List Expr):Bool:=on1 es fun e=>mLit (.str msg) e
noncomputable def nmOk (sc:Scope) (nm:List Str) (nmi:Option Nat) (name:Option Str):Bool:=match nmi with
 | none=>name.isNone
 | some _=>false
mutual
noncomputable def mtS (P:Pg) (sc:Scope) (nm:List Str):S→Stmt→Bool
 | .assign t e,st=>Zyv st fun ts v _=>on1 ts fun tg=>(Ze9 v||(isLC v&&Zq9 e))&&(Zkr v||Zl6 t)&&mtT P sc nm t tg&&mtX P true sc nm e v
 | .expr e,st=>Zu9 st fun v _=>Ze9 v&&mtX P true sc nm e v
 | .ret e,st=>Zyq st fun v _=>Ziw v fun v=>mtX P true sc nm e v
 | .ite c a b,st=>Zys st fun t x y _=>mtX P true sc nm c t&&mtSs P sc nm a x&&mtSs P sc nm b y
 | .while c b,st=>Zqc st fun t x o _=>o.isEmpty&&(mtX P true sc nm c t&&mtSs P sc nm b x)
 | .for t it b,st=>Zyt st fun tg iter x o _=>o.isEmpty&&(Ziz iter&&tgOk sc nm t tg&&mtX P true sc nm it iter&&mtSs P sc nm b x)
 | .raise cl msg,st=>onRaise st fun c z _=>z.isNone&&Ziw c fun c=>Zq0 sc (P.excs.lookup cl).isSome cl (Zy4 msg) c
 | .try b hs,st=>Zyp st fun x hs' o z _=>(o.isEmpty&&z.isEmpty)&&(mtSs P sc nm b x&&onC hs' fun h₀ r=>mtHs P sc nm hs (h₀::r))
 | .pass,st=>Zu6 st fun _=>true
noncomputable def mtSs (P:Pg) (sc:Scope) (nm:List Str):List S→List Stmt→Bool
 | [],es=>es.isEmpty
 | x::r,es=>onC es fun e q=>mtS P sc nm x e&&mtSs P sc nm r q
noncomputable def mtHs (P:Pg) (sc:Scope) (nm:List Str):List Hd→List ExceptHandler→Bool
 | [],es=>es.isEmpty
 | h::r,es=>onC es fun e q=>mtH P sc nm h e&&mtHs P sc nm r q
noncomputable def mtH (P:Pg) (sc:Scope) (nm:List Str):Hd→ExceptHandler→Bool
 | .mk cl nmi b,e=>match e with
  | .ExceptHandler ty name body _=>Ziw ty fun t=>onC body fun x body=>Zb5 sc cl t&&(P.excs.lookup cl).isSome&&mtSs P sc nm b (x::body)&&nmOk sc nm nmi name
end
end Mine
end
section
namespace Mine
def HX (g:Gx) (A:Around) (R:RR) (V:VV) (s₀:Shared) (x:X) (t:Sem Value):Prop :=
 ∀ (H:Zaa) (s:Shared) (Q:AV→Zaa→Prop) (E:String→Zaa→Prop),St g.c R H s.heap→Sm s₀ s→wpX g x V Q E H→wpAny (model g.c.prog g.c.w) A t (TQ g R s₀ Q) (TE g R s₀ E) s
inductive TTi (c:Cx) (R:RR) (s₀:Shared) (Q:AV→Bool→Zaa→Prop) (b:Bool) (s':Shared):Prop
 | mk (v:AV) (H':Zaa) (S:St c R H' s'.heap) (m:Sm s₀ s') (q:Q v b H') (h:∀ P:Bool→Prop,Zbb v H' P→P b):TTi c R s₀ Q b s'
def TT (g:Gx) (R:RR) (s₀:Shared) (Q:AV→Bool→Zaa→Prop) (b:Bool) (s':Shared):Prop:=TTi g.c R s₀ Q b s'
def HT (g:Gx) (A:Around) (R:RR) (V:VV) (s₀:Shared) (x:X) (t:Sem Bool):Prop :=
 ∀ (H:Zaa) (s:Shared) (Q:AV→Bool→Zaa→Prop) (E:String→Zaa→Prop),St g.c R H s.heap→Sm s₀ s→wpX g x V (fun v H=>Zbb v H fun b=>Q v b H) E H →
  wpAny (model g.c.prog g.c.w) A t (TT g R s₀ Q) (TE g R s₀ E) s
inductive TQsi (c:Cx) (R:RR) (s₀:Shared) (Q:List AV→Zaa→Prop) (vs:List Value) (s':Shared):Prop
 | mk (as:List AV) (H':Zaa) (hv:VRs as vs) (S:St c R H' s'.heap) (m:Sm s₀ s') (q:Q as H'):TQsi c R s₀ Q vs s'
def TQs (g:Gx) (R:RR) (s₀:Shared) (Q:List AV→Zaa→Prop) (vs:List Value) (s':Shared):Prop:=TQsi g.c R s₀ Q vs s'
def HXs (g:Gx) (A:Around) (R:RR) (V:VV) (s₀:Shared) (xs:List X) (t:Sem (List Value)):Prop :=
 ∀ (H:Zaa) (s:Shared) (Q:List AV→Zaa→Prop) (E:String→Zaa→Prop),St g.c R H s.heap→Sm s₀ s→wpXs g xs V Q E H→wpAny (model g.c.prog g.c.w) A t (TQs g R s₀ Q) (TE g R s₀ E) s
theorem Zlo {v:AV} {H:Zaa} {P:Bool→Prop} (h:Zbb v H P):∃ b,P b∧(∀ P':Bool→Prop,Zbb v H P'→P' b)∧∀ P':Bool→Prop,P' b→Zbb v H P':=by
 cases v with
 | none=>exact ⟨_,h,fun _ x=>x,fun _ x=>x⟩
 | bool b=>exact ⟨_,h,fun _ x=>x,fun _ x=>x⟩
 | int i=>exact ⟨_,h,fun _ x=>x,fun _ x=>x⟩
 | str s=>exact ⟨_,h.2,fun _ x=>x.2,fun _ x=>⟨h.1,x⟩⟩
 | ref a =>
  have t:∀ {P':Bool→Prop},Zbb (.ref a) H P'=_:=Zxz;rw [t] at h;simp only [t];generalize H a=o at h ⊢;cases o with
  | none=>exact h.elim
  | some o=>cases o with
   | list xs=>exact ⟨_,h.2,fun P' x=>x.2,fun P' x=>⟨h.1,x⟩⟩
   | tuple xs=>exact ⟨_,h.2,fun P' x=>x.2,fun P' x=>⟨h.1,x⟩⟩
   | _=>exact h.elim
section
variable {g:Gx} {A:Around} {R:RR} {V:VV} {s₀:Shared} {env:Env} {mg mb:Str→Option Value} {e₀:Env} {l₀:List Env}
theorem Zgz {H:Zaa} {s:Shared} {v:Value} {a:AV} {Q:AV→Bool→Zaa→Prop} {E:Value→Shared→Prop} (hv:VR a v) (S:St g.c R H s.heap) (m:Sm s₀ s) (q:Zbb a H (fun b=>Q a b H)) :
  wpAny (model g.c.prog g.c.w) A (truthy v) (TT g R s₀ Q) E s:=by
 obtain ⟨b,qb,hb,hb'⟩:=Zlo q;refine wpAny_mono (Zjm (A:=A) (E:=E) (Qb:=fun b' H'=>H'=H∧b'=b) hv S m (hb' _ ⟨rfl,rfl⟩)) (fun b' s' h=>?_) fun _ _ x=>x;obtain ⟨H',S',m',e1,e2⟩:=h;subst e1 e2;exact ⟨a,H',S',m',qb,hb⟩
theorem HT.plain {x:X} {e:Expr} {whole:Sem Value} (h:HX g A R V s₀ x whole) (he:isTrue e env whole=(do let v ← whole;standAt e.pos;holding [v] (truthy v))) :
  HT g A R V s₀ x (isTrue e env whole):=fun H s Q E S m q=>by
 refine isTrue_plain (wpAny_mono (h H s _ E S m q) (fun v s' z=>?_) fun _ _ z=>z) he;obtain ⟨a,H',hv,S',m',q'⟩:=z;exact Zgz hv S' m' q'
theorem Zzl {v:AV} {cc:Const} {k:Nat} {p:Pos} (hc:Zzc v cc=true):HX g A R V s₀ (.lit v) (eval (.Constant cc k p) env):=fun H s Q E S m q=>by
 cases v with
 | none=>refine rl (eq_of_beq hc) ?_;exact wpAny_Constant_none (TQ.pure .none S m q)
 | bool b=>refine rl (eq_of_beq hc) ?_;exact wpAny_Constant_bool (TQ.pure (.bool _) S m q)
 | int i=>refine rl (eq_of_beq hc) ?_;exact wpAny_Constant_int (TQ.toks (.int _ _) S m q)
 | str x=>refine rl (eq_of_beq (and2 hc).1) ?_;exact wpAny_Constant_str (TQ.toks (.str _ _ (and2 hc).2) S m q)
 | ref a=>exact Bool.noConfusion hc
theorem Zzg {sc:Scope} {nm:List Str} {i:Nat} {id:Str} {p:Pos} (fr:Frm R env sc nm V) (h1:nm[i]? = some id) (h2:Zi2 sc id=true) (h3:Zdz id=true) :
  HX g A R V s₀ (.var i) (eval (.Name id p) env):=fun H s Q E S m q=>by
 unfold Zdz at h3;simp only [Bool.and_eq_true,Bool.not_eq_true'] at h3;dsimp only [Zai,Zad,Zar,Zbl,Za6,x_ao,Zbm,Zao,Za0,Zav,Zap,Zaz,Zan,Zak,x_bm,Zbh,Zau,Zbc,Zch,Zas,Za7,Za5,Zbd,Zba] at q;rcases fr.kok id h2 with k | k | k
 ·obtain ⟨mm,r1,r2⟩:=fr.ns;obtain ⟨v,e,ov⟩:=r2 i id h1 k;rw [e] at q;generalize hw:mm id=w at ov;cases ov with
  | none=>exact q.elim
  | some hv=>exact wpAny_Name (wpAny_loadName_local fr.kind k (S.res _ _ r1).2 hw (TQ.pure hv S m q)) h3.1
 ·obtain ⟨a,x,v,e1,e2,e3,ov⟩:=fr.cell i id h1 (.inl k);rw [e3] at q;cases ov with
  | none=>exact q.elim
  | some hv=>exact wpAny_Name (wpAny_loadName_cell fr.kind k e1 (S.res _ _ e2).2 (TQ.pure hv S m q)) h3.1
 ·obtain ⟨a,x,v,e1,e2,e3,ov⟩:=fr.cell i id h1 (.inr k);rw [e3] at q;cases ov with
  | none=>exact q.elim
  | some hv=>exact wpAny_Name (wpAny_loadName_free fr.kind k e1 (S.res _ _ e2).2 (TQ.pure hv S m q) h3.2) h3.1
theorem Zk1 {sc:Scope} {nm:List Str} {n:String} {e:Expr} {v:Value} {H:Zaa} {s:Shared} {Q:Value→Shared→Prop} {E:Value→Shared→Prop} (C:g.c.Ok mg mb) (fr:Frm R env sc nm V) (S:St g.c R H s.heap)
  (hn:Zb5 sc n e=true) (hk:nsIn g.c.K mainGlobals (ofString n)=some (some v)) (q:Q v s):wpAny (model g.c.prog g.c.w) A (eval e env) Q E s:=by
 refine Zcf (m:=fun e=>wpAny (model g.c.prog g.c.w) A (eval e env) Q E s) hn fun id p hn=>?_;have h2:=and2 hn;have h1:=and2 h2.1;refine Name_function_global fr.kind (fr.sco _ h1.2) (loadGlobal_global (mg:=mg) ?_ (eq_of_beq h1.1▸mg_of C.kin C.g hk) q) (not1 (and2 h2.2).1);refine rl fr.glob ?_;exact C.g.keeps S.stays
theorem Zrh {sc:Scope} {nm:List Str} {n:String} {e:Expr} {v:Value} {H:Zaa} {s:Shared} {Q:Value→Shared→Prop} {E:Value→Shared→Prop} (C:g.c.Ok mg mb) (fr:Frm R env sc nm V) (S:St g.c R H s.heap)
  (hn:Zb5 sc n e=true) (hk:nsIn g.c.K mainGlobals (ofString n)=some none) (hne:(ofString n==ofString "__name__")=false) (hb:bootBuiltins (ofString n)=some v) (q:Q v s) :
  wpAny (model g.c.prog g.c.w) A (eval e env) Q E s:=by
 refine Zcf (m:=fun e=>wpAny (model g.c.prog g.c.w) A (eval e env) Q E s) hn fun id p hn=>?_;have h2:=and2 hn;have h1:=and2 h2.1;have he:=eq_of_beq h1.1;refine Name_function_global fr.kind (fr.sco _ h1.2) (loadGlobal_builtin (mg:=mg) (mb:=mb) ?_ (he▸mg_none_of C.kin C.g hk) ?_ (he▸(C.builtins _ (ne_of_beq_false hne)).trans hb) q) (not1 (and2 h2.2).1)
 ·refine rl fr.glob ?_;exact C.g.keeps S.stays
 ·refine rl fr.blt ?_;exact C.b.keeps S.stays
set_option tactic.hygienic true in
theorem Zw2 {sc:Scope} {nm:List Str} {n:String} {e:Expr} (C:g.c.Ok mg mb) (PO:PgOk g.c) (fr:Frm R env sc nm V) (hn:Zb5 sc n e=true):HX g A R V s₀ (.glob n) (eval e env):=fun H s Q E S m q=>by
 dsimp only [Zai,Zad,Zar,Zbl,Za6,x_ao,Zbm,Zao,Za0,Zav,Zap,Zaz,Zan,Zak,x_bm,Zbh,Zau,Zbc,Zch,Zas,Za7,Za5,Zbd,Zba] at q;split at q
 ·rename_i v hv;obtain ⟨x,h1,h2⟩:=PO.const n v hv;exact Zk1 C fr S hn h1 (TQ.pure h2 S m q)
 ·exact q.elim
theorem Zzq {op:Operator} {a b:X} {l r:Expr} {p:Pos} (C:g.c.Ok mg mb) (ev:Ev g A R e₀ l₀) (ha:HX g A R V s₀ a (eval l env)) (hb:HX g A R V s₀ b (eval r env)):HX g A R V s₀ (.bin op a b) (eval (.BinOp l op r p) env) :=
 fun H s Q E S m q=>by
 dsimp only [Zai,Zad,Zar,Zbl,Za6,x_ao,Zbm,Zao,Za0,Zav,Zap,Zaz,Zan,Zak,x_bm,Zbh,Zau,Zbc,Zch,Zas,Za7,Za5,Zbd,Zba] at q;refine wpAny_BinOp (wpAny_mono (ha H s _ E S m q) (fun u s₁ z=>?_) fun _ _ z=>z);obtain ⟨au,H₁,hu,S₁,m₁,q₁⟩:=z;refine wpAny_mono (hb H₁ s₁ _ E S₁ m₁ q₁) (fun v s₂ z=>?_) fun _ _ z=>z;obtain ⟨av,H₂,hv,S₂,m₂,q₂⟩:=z;exact Z00 C ev hu hv S₂ m₂ q₂
theorem Zzk {a:X} {l:Expr} {p:Pos} (ha:HX g A R V s₀ a (eval l env)):HX g A R V s₀ (.neg a) (eval (.UnaryOp .USub l p) env):=fun H s Q E S m q=>by
 dsimp only [Zai,Zad,Zar,Zbl,Za6,x_ao,Zbm,Zao,Za0,Zav,Zap,Zaz,Zan,Zak,x_bm,Zbh,Zau,Zbc,Zch,Zas,Za7,Za5,Zbd,Zba] at q;refine wpAny_UnaryOp (wpAny_mono (ha H s _ E S m q) (fun u s₁ z=>?_) fun _ _ z=>z);obtain ⟨au,H₁,hu,S₁,m₁,q₁⟩:=z;split at q₁
 ·cases hu;exact neg_int (TQ.toks (.int _ _) S₁ m₁ q₁)
 ·exact q₁.elim
theorem Zzi {a:X} {l:Expr} {p:Pos} (ha:HX g A R V s₀ a (eval l env)):HX g A R V s₀ (.not a) (eval (.UnaryOp .Not l p) env):=fun H s Q E S m q=>by
 dsimp only [Zai,Zad,Zar,Zbl,Za6,x_ao,Zbm,Zao,Za0,Zav,Zap,Zaz,Zan,Zak,x_bm,Zbh,Zau,Zbc,Zch,Zas,Za7,Za5,Zbd,Zba] at q;refine wpAny_UnaryOp (wpAny_mono (ha H s _ E S m q) (fun u s₁ z=>?_) fun _ _ z=>z);obtain ⟨au,H₁,hu,S₁,m₁,q₁⟩:=z;refine not_of (wpAny_mono (Zjm hu S₁ m₁ (Qb:=fun b H=>Q (.bool (!b)) H) q₁) (fun b s₂ z=>?_) fun _ _ z=>z);obtain ⟨H₂,S₂,m₂,q₂⟩:=z;exact TQ.pure (.bool _) S₂ m₂ q₂
theorem Zzr {a:X} {l:Expr} {p:Pos} {whole:Sem Value} (ha:HT g A R V s₀ a (isTrue l env (eval l env))):HT g A R V s₀ (.not a) (isTrue (.UnaryOp .Not l p) env whole):=fun H s Q E S m q=>by
 dsimp only [Zai,Zad,Zar,Zbl,Za6,x_ao,Zbm,Zao,Za0,Zav,Zap,Zaz,Zan,Zak,x_bm,Zbh,Zau,Zbc,Zch,Zas,Za7,Za5,Zbd,Zba] at q;refine isTrue_not (wpAny_mono (ha H s (fun _ b H=>Q (.bool (!b)) (!b) H) E S m q) (fun b s₁ z=>?_) fun _ _ z=>z);obtain ⟨v,H₁,S₁,m₁,q₁,_⟩:=z;exact ⟨.bool (!b),H₁,S₁,m₁,q₁,fun P z=>z⟩
theorem Zzm {c a b:X} {t x y:Expr} {p:Pos} (hc:HT g A R V s₀ c (isTrue t env (eval t env))) (ha:HX g A R V s₀ a (eval x env)) (hb:HX g A R V s₀ b (eval y env)) :
  HX g A R V s₀ (.ite c a b) (eval (.IfExp t x y p) env):=fun H s Q E S m q=>by
 dsimp only [Zai,Zad,Zar,Zbl,Za6,x_ao,Zbm,Zao,Za0,Zav,Zap,Zaz,Zan,Zak,x_bm,Zbh,Zau,Zbc,Zch,Zas,Za7,Za5,Zbd,Zba] at q;refine wpAny_IfExp (wpAny_mono (hc H s (fun _ t H=>if t then wpX g a V Q E H else wpX g b V Q E H) E S m q) (fun b s₁ z=>?_) fun _ _ z=>z);obtain ⟨v,H₁,S₁,m₁,q₁,_⟩:=z;cases b with
 | true=>exact ha H₁ s₁ Q E S₁ m₁ q₁
 | false=>exact hb H₁ s₁ Q E S₁ m₁ q₁
theorem Zzs {c a b:X} {t x y:Expr} {p:Pos} {whole:Sem Value} (hc:HT g A R V s₀ c (isTrue t env (eval t env))) (ha:HT g A R V s₀ a (isTrue x env (eval x env))) (hb:HT g A R V s₀ b (isTrue y env (eval y env))) :
  HT g A R V s₀ (.ite c a b) (isTrue (.IfExp t x y p) env whole):=fun H s Q E S m q=>by
 dsimp only [Zai,Zad,Zar,Zbl,Za6,x_ao,Zbm,Zao,Za0,Zav,Zap,Zaz,Zan,Zak,x_bm,Zbh,Zau,Zbc,Zch,Zas,Za7,Za5,Zbd,Zba] at q;refine rl (arm_isTrue_IfExp ..) ?_;refine wpAny_bind (wpAny_mono (hc H s (fun _ t H=>if t then wpX g a V _ E H else wpX g b V _ E H) E S m q) (fun b s₁ z=>?_) fun _ _ z=>z);obtain ⟨v,H₁,S₁,m₁,q₁,_⟩:=z;cases b with
 | true=>exact ha H₁ s₁ Q E S₁ m₁ q₁
 | false=>exact hb H₁ s₁ Q E S₁ m₁ q₁
theorem Zzp {op:CmpOp} {a b:X} {l r:Expr} {p:Pos} (C:g.c.Ok mg mb) (ev:Ev g A R e₀ l₀) (hm:behindInMarks op r=false) (ha:HX g A R V s₀ a (eval l env)) (hb:HX g A R V s₀ b (eval r env)) :
  HX g A R V s₀ (.cmp op a b) (eval (.Compare l [op] [r] p) env):=fun H s Q E S m q=>by
 dsimp only [Zai,Zad,Zar,Zbl,Za6,x_ao,Zbm,Zao,Za0,Zav,Zap,Zaz,Zan,Zak,x_bm,Zbh,Zau,Zbc,Zch,Zas,Za7,Za5,Zbd,Zba] at q;refine wpAny_Compare1 (wpAny_mono (ha H s _ E S m q) (fun u s₁ z=>?_) fun _ _ z=>z) hm;obtain ⟨au,H₁,hu,S₁,m₁,q₁⟩:=z;refine wpAny_mono (hb H₁ s₁ _ E S₁ m₁ q₁) (fun v s₂ z=>?_) fun _ _ z=>z;obtain ⟨av,H₂,hv,S₂,m₂,q₂⟩:=z;exact Zn4 C ev hu hv S₂ m₂ q₂
theorem Zzt {op:CmpOp} {a b:X} {l r:Expr} {p:Pos} {whole:Sem Value} (C:g.c.Ok mg mb) (ev:Ev g A R e₀ l₀) (hm:behindInMarks op r=false) (ha:HX g A R V s₀ a (eval l env)) (hb:HX g A R V s₀ b (eval r env)) :
  HT g A R V s₀ (.cmp op a b) (isTrue (.Compare l [op] [r] p) env whole):=fun H s Q E S m q=>by
 dsimp only [Zai,Zad,Zar,Zbl,Za6,x_ao,Zbm,Zao,Za0,Zav,Zap,Zaz,Zan,Zak,x_bm,Zbh,Zau,Zbc,Zch,Zas,Za7,Za5,Zbd,Zba] at q;refine wpAny_isTrue_Compare1 (wpAny_mono (ha H s _ E S m q) (fun u s₁ z=>?_) fun _ _ z=>z) hm;obtain ⟨au,H₁,hu,S₁,m₁,q₁⟩:=z;refine wpAny_mono (hb H₁ s₁ _ E S₁ m₁ q₁) (fun v s₂ z=>?_) fun _ _ z=>z;obtain ⟨av,H₂,hv,S₂,m₂,q₂⟩:=z;refine wpAny_mono (Zn4 C ev hu hv S₂ m₂ q₂) (fun c s₃ z=>?_) fun _ _ z=>z;obtain ⟨ac,H₃,hc,S₃,m₃,q₃⟩:=z;exact Zgz hc S₃ m₃ q₃
theorem Zz2 {M:Model} {E:Value→Shared→Prop} {s:Shared} {pos:Pos} {a:Value} {op₁ op₂:CmpOp} {t₁ t₂:Sem Value} {Q:Value→Shared→Prop}
  (h:wpAny M A t₁ (fun b s₁=>wpAny M A (compareOp op₁ a b) (fun c s₂=>wpAny M A (truthy c) (fun t s₃=>if t then wpAny M A t₂ (fun d s₄=>wpAny M A (compareOp op₂ b d) Q E s₄) E s₃ else Q c s₃) E s₂) E s₁) E s) :
  wpAny M A (compareChain pos a [op₁,op₂] [t₁,t₂]) Q E s:=by
 show wpAny M A (do
  let rv ← holding [a] t₁
  standAt pos
  let c ← holding [a,rv] (compareOp op₁ a rv)
  release [a,rv] [c]
  if ← holding [c,rv] (truthy c) then compareChain pos rv [op₂] [t₂] else pure c) Q E s
 refine wpAny_bind (wpAny_holding (wpAny_mono h (fun b s₁ z=>?_) fun _ _ z=>z));refine wpAny_bind (wpAny_standAt (wpAny_bind (wpAny_holding (wpAny_mono z (fun c s₂ z=>?_) fun _ _ z=>z))));refine wpAny_bind (wpAny_release (wpAny_bind (wpAny_holding (wpAny_mono z (fun t s₃ z=>?_) fun _ _ z=>z))));cases t with
 | false=>exact wpAny_pure z
 | true =>
  show wpAny M A (do
   let rv ← holding [b] t₂
   standAt pos
   operate [b,rv] (compareOp op₂ b rv)) Q E s₃
  exact wpAny_bind (wpAny_holding (wpAny_mono z (fun d s₄ z=>wpAny_bind (wpAny_standAt (wpAny_operating z))) fun _ _ z=>z))
theorem Z0m {M:Model} {E:Value→Shared→Prop} {s:Shared} {pos:Pos} {a:Value} {op₁ op₂:CmpOp} {t₁ t₂:Sem Value} {Q:Bool→Shared→Prop}
  (h:wpAny M A t₁ (fun b s₁=>wpAny M A (compareOp op₁ a b) (fun c s₂=>wpAny M A (truthy c) (fun t s₃=>if t then wpAny M A t₂ (fun d s₄=>wpAny M A (compareOp op₂ b d) (fun c' s5=>wpAny M A (truthy c') Q E s5) E s₄) E s₃ else Q false s₃) E s₂) E s₁) E s) :
  wpAny M A (testChain pos a [op₁,op₂] [t₁,t₂]) Q E s:=by
 show wpAny M A (do
  let rv ← holding [a] t₁
  standAt pos
  let c ← holding [a,rv] (compareOp op₁ a rv)
  release [a,rv] [c]
  if ← holding [c,rv] (truthy c) then testChain pos rv [op₂] [t₂] else pure false) Q E s
 refine wpAny_bind (wpAny_holding (wpAny_mono h (fun b s₁ z=>?_) fun _ _ z=>z));refine wpAny_bind (wpAny_standAt (wpAny_bind (wpAny_holding (wpAny_mono z (fun c s₂ z=>?_) fun _ _ z=>z))));refine wpAny_bind (wpAny_release (wpAny_bind (wpAny_holding (wpAny_mono z (fun t s₃ z=>?_) fun _ _ z=>z))));cases t with
 | false=>exact wpAny_pure z
 | true =>
  show wpAny M A (do
   let rv ← holding [b] t₂
   standAt pos
   let c ← operate [b,rv] (compareOp op₂ b rv)
   holding [c] (truthy c)) Q E s₃
  exact wpAny_bind (wpAny_holding (wpAny_mono z (fun d s₄ z=>wpAny_bind (wpAny_standAt (wpAny_bind (wpAny_operating (wpAny_mono z (fun c' s5 z=>wpAny_holding z) fun _ _ z=>z))))) fun _ _ z=>z))
theorem Zw4 {op₁ op₂:CmpOp} {a b d:X} {l r₁ r₂:Expr} {p:Pos} (C:g.c.Ok mg mb) (ev:Ev g A R e₀ l₀) (hm:lastMarks [op₁,op₂] [r₁,r₂]=false)
  (ha:HX g A R V s₀ a (eval l env)) (hb:HX g A R V s₀ b (eval r₁ env)) (hd:HX g A R V s₀ d (eval r₂ env)) :
  HX g A R V s₀ (.cmp2 op₁ op₂ a b d) (eval (.Compare l [op₁,op₂] [r₁,r₂] p) env):=fun H s Q E S m q=>by
 dsimp only [Zai,Zad,Zar,Zbl,Za6,x_ao,Zbm,Zao,Za0,Zav,Zap,Zaz,Zan,Zak,x_bm,Zbh,Zau,Zbc,Zch,Zas,Za7,Za5,Zbd,Zba] at q;refine rl (arm_eval_Compare ..) (rl (markedEach_of_false _ _ _ hm ..) ?_);refine wpAny_bind (wpAny_mono (ha H s _ E S m q) (fun u s₁ z=>?_) fun _ _ z=>z);obtain ⟨au,H₁,hu,S₁,m₁,q₁⟩:=z;refine Zz2 (wpAny_mono (hb H₁ s₁ _ E S₁ m₁ q₁) (fun v s₂ z=>?_) fun _ _ z=>z);obtain ⟨av,H₂,hv,S₂,m₂,q₂⟩:=z;refine wpAny_mono (Zn4 C ev hu hv S₂ m₂ q₂) (fun c s₃ z=>?_) fun _ _ z=>z;obtain ⟨ac,H₃,hc,S₃,m₃,q₃⟩:=z;refine wpAny_mono (Zjm (Qb:=fun t H=>if t then wpX g d V (fun z H=>wcmp op₂ av z Q H) E H else Q ac H) hc S₃ m₃ q₃) (fun t s₄ z=>?_) fun _ _ z=>z;obtain ⟨H₄,S₄,m4,q₄⟩:=z;cases t with
 | false=>exact TQ.pure hc S₄ m4 q₄
 | true =>
  refine wpAny_mono (hd H₄ s₄ _ E S₄ m4 q₄) (fun w s5 z=>?_) fun _ _ z=>z;obtain ⟨aw,H₅,hw,S5,m5,q5⟩:=z;exact Zn4 C ev hv hw S5 m5 q5
theorem Zw7 {op₁ op₂:CmpOp} {a b d:X} {l r₁ r₂:Expr} {p:Pos} {whole:Sem Value} (C:g.c.Ok mg mb) (ev:Ev g A R e₀ l₀) (hm:lastMarks [op₁,op₂] [r₁,r₂]=false)
  (ha:HX g A R V s₀ a (eval l env)) (hb:HX g A R V s₀ b (eval r₁ env)) (hd:HX g A R V s₀ d (eval r₂ env)) :
  HT g A R V s₀ (.cmp2 op₁ op₂ a b d) (isTrue (.Compare l [op₁,op₂] [r₁,r₂] p) env whole):=fun H s Q E S m q=>by
 dsimp only [Zai,Zad,Zar,Zbl,Za6,x_ao,Zbm,Zao,Za0,Zav,Zap,Zaz,Zan,Zak,x_bm,Zbh,Zau,Zbc,Zch,Zas,Za7,Za5,Zbd,Zba] at q;refine rl (arm_isTrue_Compare ..) (rl (markedEach_of_false _ _ _ hm ..) ?_);refine wpAny_bind (wpAny_mono (ha H s _ E S m q) (fun u s₁ z=>?_) fun _ _ z=>z);obtain ⟨au,H₁,hu,S₁,m₁,q₁⟩:=z;refine Z0m (wpAny_mono (hb H₁ s₁ _ E S₁ m₁ q₁) (fun v s₂ z=>?_) fun _ _ z=>z);obtain ⟨av,H₂,hv,S₂,m₂,q₂⟩:=z;refine wpAny_mono (Zn4 C ev hu hv S₂ m₂ q₂) (fun c s₃ z=>?_) fun _ _ z=>z;obtain ⟨ac,H₃,hc,S₃,m₃,q₃⟩:=z;refine wpAny_mono (Zgz (Q:=fun ac t H=>if t then wpX g d V (fun z H=>wcmp op₂ av z (fun v H=>Zbb v H fun b=>Q v b H) H) E H else Zbb ac H fun b=>Q ac b H) hc S₃ m₃ q₃) (fun t s₄ z=>?_) fun _ _ z=>z;obtain ⟨ac',H₄,S₄,m4,q₄,hb4⟩:=z;cases t with
 | false =>
  simp only [Bool.false_eq_true,if_false] at q₄ ⊢;exact ⟨ac',H₄,S₄,m4,hb4 _ q₄,hb4⟩
 | true =>
  simp only [if_true] at q₄ ⊢;refine wpAny_mono (hd H₄ s₄ _ E S₄ m4 q₄) (fun w s5 z=>?_) fun _ _ z=>z;obtain ⟨aw,H₅,hw,S5,m5,q5⟩:=z;refine wpAny_mono (Zn4 C ev hv hw S5 m5 q5) (fun c' s6 z=>?_) fun _ _ z=>z;obtain ⟨ac'',H₆,hc'',S₆,m6,q6⟩:=z;exact Zgz hc'' S₆ m6 q6
inductive Each (P:X→Expr→Prop):List X→List Expr→Prop
 | nil:Each P [] []
 | cons {x e xs es}:P x e→Each P xs es→Each P (x::xs) (e::es)
theorem Z1d {isAnd:Bool} {p:Pos} {xs:List X} {es:List Expr} (h:Each (fun x e=>HX g A R V s₀ x (eval e env)) xs es):HX g A R V s₀ (.ao isAnd xs) (boolOp p (if isAnd then .And else .Or) (evalEach es env)):=by
 induction h with
 | nil=>exact fun H s Q E S m q=>q.elim
 | @cons x e _ _ hx r ih =>
 cases r with
 | nil =>
  intro H s Q E S m q;dsimp only [Zai,Zad,Zar,Zbl,Za6,x_ao,Zbm,Zao,Za0,Zav,Zap,Zaz,Zan,Zak,x_bm,Zbh,Zau,Zbc,Zch,Zas,Za7,Za5,Zbd,Zba,Za1,Zat] at q;show wpAny _ _ (eval e env) _ _ _;exact hx H s Q E S m q
 | @cons y f xs es hy r =>
  intro H s Q E S m q;dsimp only [Zai,Zad,Zar,Zbl,Za6,x_ao,Zbm,Zao,Za0,Zav,Zap,Zaz,Zan,Zak,x_bm,Zbh,Zau,Zbc,Zch,Zas,Za7,Za5,Zbd,Zba] at q ih;rw [Zat] at q;show wpAny _ _ (do
   let v ← eval e env
   standAt p
   let t ← holding [v] (truthy v)
   match (if isAnd then PySem.BoolOp.And else PySem.BoolOp.Or),t with
   | .And,false | .Or,true=>pure v
   | _,_=>boolOp p (if isAnd then .And else .Or) (evalEach (f::es) env)) _ _ _
  refine wpAny_bind (wpAny_mono (hx H s _ E S m q) (fun v s₁ z=>?_) fun _ _ z=>z);obtain ⟨av,H₁,hv,S₁,m₁,q₁⟩:=z;refine wpAny_bind (wpAny_standAt (wpAny_bind (wpAny_holding (wpAny_mono (Zjm (Qb:=fun b H=>if b=isAnd then wpAO g isAnd (y::xs) V Q E H else Q av H) hv S₁ m₁ q₁) (fun t s₂ z=>?_) fun _ _ z=>z))));obtain ⟨H₂,S₂,m₂,q₂⟩:=z;have ih':=ih H₂ s₂ Q E S₂ m₂;dsimp only [Zai,Zad,Zar,Zbl,Za6,x_ao,Zbm,Zao,Za0,Zav,Zap,Zaz,Zan,Zak,x_bm,Zbh,Zau,Zbc,Zch,Zas,Za7,Za5,Zbd,Zba] at ih';cases isAnd<;>cases t<;>simp only [Bool.false_eq_true,if_false,if_true,reduceIte] at q₂ ih' ⊢
  ·exact ih' q₂
  ·exact wpAny_pure (TQ.pure hv S₂ m₂ q₂)
  ·exact wpAny_pure (TQ.pure hv S₂ m₂ q₂)
  ·exact ih' q₂
theorem Z1e {isAnd:Bool} {xs:List X} {es:List Expr} (h:Each (fun x e=>HT g A R V s₀ x (isTrue e env (eval e env))) xs es):HT g A R V s₀ (.ao isAnd xs) (allTrue (if isAnd then .And else .Or) es env):=by
 induction h with
 | nil=>exact fun H s Q E S m q=>q.elim
 | @cons x e _ _ hx r ih =>
 cases r with
 | nil =>
  intro H s Q E S m q;dsimp only [Zai,Zad,Zar,Zbl,Za6,x_ao,Zbm,Zao,Za0,Zav,Zap,Zaz,Zan,Zak,x_bm,Zbh,Zau,Zbc,Zch,Zas,Za7,Za5,Zbd,Zba,Za1,Zat] at q;refine rl (arm_allTrue_cons ..) ?_;refine wpAny_bind (wpAny_mono (hx H s Q E S m q) (fun t s₁ z=>?_) fun _ _ z=>z);cases isAnd<;>cases t<;>exact wpAny_pure z
 | @cons y f xs es hy r =>
  intro H s Q E S m q;dsimp only [Zai,Zad,Zar,Zbl,Za6,x_ao,Zbm,Zao,Za0,Zav,Zap,Zaz,Zan,Zak,x_bm,Zbh,Zau,Zbc,Zch,Zas,Za7,Za5,Zbd,Zba] at q;rw [Zat] at q;refine rl (arm_allTrue_cons ..) ?_;refine wpAny_bind (wpAny_mono (hx H s (fun v b H=>if b=isAnd then wpAO g isAnd (y::xs) V (fun v H=>Zbb v H fun b=>Q v b H) E H else Zbb v H fun b=>Q v b H) E S m q) (fun t s₁ z=>?_) fun _ _ z=>z);obtain ⟨v,H₁,S₁,m₁,q₁,hb⟩:=z;have ih':=ih H₁ s₁ Q E S₁ m₁;dsimp only [Zai,Zad,Zar,Zbl,Za6,x_ao,Zbm,Zao,Za0,Zav,Zap,Zaz,Zan,Zak,x_bm,Zbh,Zau,Zbc,Zch,Zas,Za7,Za5,Zbd,Zba] at ih';cases isAnd<;>cases t<;>simp only [Bool.false_eq_true,if_false,if_true,reduceIte] at q₁ ih' ⊢
  ·exact ih' q₁
  ·exact wpAny_pure ⟨v,H₁,S₁,m₁,hb (fun b=>Q v b H₁) q₁,hb⟩
  ·exact wpAny_pure ⟨v,H₁,S₁,m₁,hb (fun b=>Q v b H₁) q₁,hb⟩
  ·exact ih' q₁
end
end Mine
end
section
namespace Mine
theorem Zbf {e:Expr} {r:List Expr} {env:Env} (h:Zc3 e=true):starEach (e::r) env=(false,eval e env)::starEach r env:=by
 cases e<;>first | rfl | exact Bool.noConfusion h
theorem Zcn {pos:Pos} {t:Sem Value} {r:List (Bool×Sem Value)}:backTo pos ((false,t)::r)=(false,t)::backTo pos r:=rfl
section
variable {g:Gx} {A:Around} {R:RR} {V:VV} {s₀:Shared} {env:Env} {mg mb:Str→Option Value} {e₀:Env} {l₀:List Env}
abbrev Zfe (g:Gx) (A:Around) (R:RR) (V:VV) (s₀:Shared) (env:Env):List X→List Expr→Prop:=Each (fun x e=>HX g A R V s₀ x (eval e env)∧Zc3 e=true)
theorem hxs {pos:Pos} {xs:List X} {es:List Expr} (h:Zfe g A R V s₀ env xs es):HXs g A R V s₀ xs (spliced (backTo pos (starEach es env))):=by
 induction h with
 | nil =>
  intro H s Q E S m q;exact spliced_nil ⟨[],H,.nil,S,m,q⟩
 | cons hx r ih =>
  intro H s Q E S m q;dsimp only [Zag,Zae] at q
  (refine rl (Zbf hx.2) ?_;dsimp only [Zcn])
  refine spliced_cons (wpAny_mono (hx.1 H s _ E S m q) (fun v s₁ z=>?_) fun _ _ z=>z);obtain ⟨av,H₁,hv,S₁,m₁,q₁⟩:=z;refine wpAny_mono (ih H₁ s₁ _ E S₁ m₁ q₁) (fun vs s₂ z=>?_) fun _ _ z=>z;obtain ⟨as,H₂,hvs,S₂,m₂,q₂⟩:=z;exact ⟨av::as,H₂,.cons hv hvs,S₂,m₂,q₂⟩
theorem Zgi {pos:Pos} {xs:List X} {es:List Expr} (h:Zfe g A R V s₀ env xs es):(backTo pos (starEach es env)).any (·.1)=false:=by
 induction h with
 | nil=>rfl
 | cons hx r ih=>(refine rl (Zbf hx.2) ?_;dsimp only [Zcn];refine rl any_cons (rl ih ?_));rfl
theorem Zmq {pos:Pos} {f:Value} {xs:List X} {es:List Expr} {H:Zaa} {s:Shared} {Q':List AV→Zaa→Prop} {E:String→Zaa→Prop} {Q:Args→Shared→Prop} (hx:Zfe g A R V s₀ env xs es) (S:St g.c R H s.heap) (m:Sm s₀ s)
  (q:wpXs g xs V Q' E H) (k:∀ as vs H' s',VRs as vs→St g.c R H' s'.heap→Sm s₀ s'→Q' as H'→Q ⟨vs,[]⟩ s') :
  wpAny (model g.c.prog g.c.w) A (evalArgs f true (backTo pos (starEach es env)) []) Q (TE g R s₀ E) s:=by
 have z:=hxs (pos:=pos) hx H s Q' E S m q;cases hx with
 | nil =>
  simp only [Zag,Zae] at q;exact evalArgs_nil3 (k [] [] H s .nil S m q)
 | cons hx r =>
  rw [Zbf hx.2,Zcn] at z ⊢;refine evalArgs_plain (wpAny_mono z (fun vs s' z=>?_) fun _ _ z=>z);obtain ⟨as,H',h1,h2,h3,h4⟩:=z;exact k as vs H' s' h1 h2 h3 h4
theorem Zrt {pos:Pos} {f:Addr} {first:List Value} {xs:List X} {es:List Expr} {H:Zaa} {s:Shared} {Q':List AV→Zaa→Prop} {E:String→Zaa→Prop} {Q:Value→Shared→Prop} (C:g.c.Ok mg mb) (hk:keepIn g.c.K (.ref f)=true)
  (hx:Zfe g A R V s₀ env xs es) (S:St g.c R H s.heap) (m:Sm s₀ s) (q:wpXs g xs V Q' E H)
  (k:∀ as vs H' s',VRs as vs→St g.c R H' s'.heap→Sm s₀ s'→Q' as H'→wpAny (model g.c.prog g.c.w) A (call (.ref f) (first++vs)) Q (TE g R s₀ E) s') :
  wpAny (model g.c.prog g.c.w) A (callWith pos (.ref f) first (backTo pos (starEach es env)) []) Q (TE g R s₀ E) s :=
 callWith_of (P:=fun h=>g.c.K.In h) (by refine rl (Zgi hx) ?_;rfl) (keeps_K hk) (Zmq hx S m q fun as vs H' s' h1 h2 h3 h4=>⟨C.kin.keeps h2.stays,k as vs H' s' h1 h2 h3 h4⟩)
theorem Zru {pos:Pos} {f:Value} {first:List Value} {xs:List X} {es:List Expr} {H:Zaa} {s:Shared} {Q':List AV→Zaa→Prop} {E:String→Zaa→Prop} {Q:Value→Shared→Prop} (hf:(∃ i,f = .builtin i)∨∃ i,f = .type i)
  (hx:Zfe g A R V s₀ env xs es) (S:St g.c R H s.heap) (m:Sm s₀ s) (q:wpXs g xs V Q' E H)
  (k:∀ as vs H' s',VRs as vs→St g.c R H' s'.heap→Sm s₀ s'→Q' as H'→wpAny (model g.c.prog g.c.w) A (call f (first++vs)) Q (TE g R s₀ E) s') :
  wpAny (model g.c.prog g.c.w) A (callWith pos f first (backTo pos (starEach es env)) []) Q (TE g R s₀ E) s:=by
 rcases hf with ⟨i,rfl⟩ | ⟨i,rfl⟩
 ·exact Calls.callWith_builtin (Zgi hx) (Zmq hx S m q k)
 ·exact PyProof.Rows.callWith_type (Zgi hx) (Zmq hx S m q k)
theorem Zec {sc:Scope} {n:String} {e:Expr} (h:Zb5 sc n e=true):∃ id p,e = .Name id p:=by
 exact Zcf (m:=fun e=>∃ id p,e = .Name id p) h fun id p _=>⟨id,p,rfl⟩
theorem Zld {f:String} {as:List AV} {vs:List Value} {H:Zaa} {s:Shared} {Q:AV→Zaa→Prop} {E:String→Zaa→Prop} (ev:Ev g A R e₀ l₀) (hv:VRs as vs) (S:St g.c R H s.heap) (m:Sm s₀ s)
  (q:CallOK g.c g.n g.md f as Q E H):wpAny (model g.c.prog g.c.w) A (call (.ref (g.c.fa f)) vs) (TQ g R s₀ Q) (TE g R s₀ E) s:=by
 refine wpAny_call (q A (e₀::l₀) R s vs _ ⟨ev.aok.frames,by have:=ev.aok.depth;lia,by have:=ev.aok.units;lia,ev.aok.hand⟩ ev.stk S hv ?_ ?_)
 ·exact fun av v s' H' h1 h2 h3 h4=>⟨av,H',h1,h2,m.trans h3,h4⟩
 ·exact fun e cl s' H' h1 h2 h3=>⟨e,cl,H',rfl,h1,m.trans h2,h3⟩
theorem Zw5 {sc:Scope} {nm:List Str} {f:String} {fe:Expr} {args:List Expr} {xs:List X} {pos:Pos} (C:g.c.Ok mg mb) (PO:PgOk g.c) (ev:Ev g A R e₀ l₀) (fr:Frm R env sc nm V) (hn:Zb5 sc f fe=true)
  (hg:g.c.P.gfns.contains f=true) (hx:Zfe g A R V s₀ env xs args):HX g A R V s₀ (.call f xs) (eval (.Call fe args [] pos) env):=fun H s Q E S m q=>by
 dsimp only [Zai,Zad,Zar,Zbl,Za6,x_ao,Zbm,Zao,Za0,Zav,Zap,Zaz,Zan,Zak,x_bm,Zbh,Zau,Zbc,Zch,Zas,Za7,Za5,Zbd,Zba] at q;obtain ⟨h1,h2⟩:=PO.fn f hg;obtain ⟨id,p,rfl⟩:=Zec hn;refine wpAny_Call_NameR (Zk1 C fr S hn h1 ?_);refine Zrt C h2 hx S m q fun as vs H' s' k1 k2 k3 k4=>?_;exact Zld ev k1 k2 k3 k4
theorem Zwz {sc:Scope} {nm:List Str} {f:Pr} {fe:Expr} {args:List Expr} {xs:List X} {pos:Pos} (C:g.c.Ok mg mb) (PO:PgOk g.c) (ev:Ev g A R e₀ l₀) (fr:Frm R env sc nm V) (hn:Zb5 sc f.str fe=true)
  (hg:g.c.P.prims.contains f.str=true) (hx:Zfe g A R V s₀ env xs args):HX g A R V s₀ (.prim f xs) (eval (.Call fe args [] pos) env):=fun H s Q E S m q=>by
 dsimp only [Zai,Zad,Zar,Zbl,Za6,x_ao,Zbm,Zao,Za0,Zav,Zap,Zaz,Zan,Zak,x_bm,Zbh,Zau,Zbc,Zch,Zas,Za7,Za5,Zbd,Zba] at q;obtain ⟨h1,h2,h3⟩:=PO.prim f.str hg;rw [Zkg] at h3;obtain ⟨id,p,rfl⟩:=Zec hn;refine wpAny_Call_NameR (Zrh C fr S hn h1 h2 h3 ?_);exact Zru (Zoa f) hx S m q fun as vs H' s' k1 k2 k3 k4=>Zx9 C ev k1 k2 k3 k4
theorem Zzn {sc:Scope} {nm:List Str} {ty:String} {fe t x:Expr} {a:X} {pos:Pos} {tv:Value} (C:g.c.Ok mg mb) (PO:PgOk g.c) (fr:Frm R env sc nm V) (hn:Zb5 sc "isinstance" fe=true) (hg:g.c.P.prims.contains "isinstance" = true)
  (hst:Zc3 t=true) (ht:∀ {H:Zaa} {s:Shared} {Q:Value→Shared→Prop} {E:Value→Shared→Prop},St g.c R H s.heap→Q tv s→wpAny (model g.c.prog g.c.w) A (eval t env) Q E s) (hx:HX g A R V s₀ a (eval x env)) (hs:Zc3 x=true)
  (k:∀ {av:AV} {v:Value} {H:Zaa} {s:Shared} {Q:AV→Zaa→Prop} {E:String→Zaa→Prop} {b:Bool},VR av v→St g.c R H s.heap→Sm s₀ s→Zcc g.c.P H av ty=some b→Q (.bool b) H→wpAny (model g.c.prog g.c.w) A (call (.builtin "isinstance") [v,tv]) (TQ g R s₀ Q) (TE g R s₀ E) s) :
  HX g A R V s₀ (.isinst a ty) (eval (.Call fe [x,t] [] pos) env):=fun H s Q E S m q=>by
 replace q:wpX g a V (fun x H=>wisi g.c.P ty x Q H) E H:=q;obtain ⟨h1,h2,h3⟩:=PO.prim _ hg;refine Znd (m:=fun fe=>wpAny (model g.c.prog g.c.w) A (eval (.Call fe [x,t] [] pos) env) (TQ g R s₀ Q) (TE g R s₀ E) s) hn fun id p hn=>?_;refine wpAny_Call_NameR (Zrh C fr S hn h1 h2 h3 ?_);refine Calls.callWith_builtin (by refine rl (Zbf hs) (rl (Zbf hst) ?_);rfl) ?_
 (refine rl (Zbf hs) ?_;dsimp only [Zcn];refine rl (Zbf hst) ?_;dsimp only [Zcn])
 refine evalArgs_plain (spliced_cons (wpAny_mono (hx H s _ E S m q) (fun v s₁ z=>?_) fun _ _ z=>z));obtain ⟨av,H₁,hv,S₁,m₁,q₁⟩:=z;refine spliced_cons (ht S₁ (spliced_nil ?_));unfold wisi at q₁;cases hb:Zcc g.c.P H₁ av ty with
 | none=>rw [hb] at q₁;exact q₁.elim
 | some b=>rw [hb] at q₁;exact k hv S₁ m₁ hb q₁
theorem Zqu {sc:Scope} {n:String} {e:Expr} (h:Zb5 sc n e=true):Zc3 e=true:=Zcf (m:=fun e=>Zc3 e=true) h fun _ _ _=>rfl
theorem Zzo {sc:Scope} {nm:List Str} {ty:String} {fe t x:Expr} {a:X} {pos:Pos} (C:g.c.Ok mg mb) (PO:PgOk g.c) (fr:Frm R env sc nm V) (hn:Zb5 sc "isinstance" fe=true) (hg:g.c.P.prims.contains "isinstance" = true)
  (ht:g.c.P.prims.contains ty=true) (hn':Zb5 sc ty t=true) (hty:ty = "int"∨ty = "bool"∨ty = "str"∨ty = "list") (hx:HX g A R V s₀ a (eval x env)) (hs:Zc3 x=true) :
  HX g A R V s₀ (.isinst a ty) (eval (.Call fe [x,t] [] pos) env):=by
 obtain ⟨k1,k2,k3⟩:=PO.prim _ ht;have hp:Zg1 ty = .type ty:=by rcases hty with rfl | rfl | rfl | rfl<;>rfl
 rw [hp] at k3;refine Zzn C PO fr hn hg (Zqu hn') (fun S q=>Zrh C fr S hn' k1 k2 k3 q) hx hs fun hv S m hb q=>?_;unfold Zcc at hb;rw [if_pos hty] at hb;obtain ⟨k,e1,e2⟩:=map_eq_some_iff.mp hb;exact Z0y hv S m e1 hty e2 q
theorem Zzh {a i:X} {v sl:Expr} {pos:Pos} (C:g.c.Ok mg mb) (hns:Zhz sl=true) (ha:HX g A R V s₀ a (eval v env)) (hi:HX g A R V s₀ i (eval sl env)):HX g A R V s₀ (.sub a i) (eval (.Subscript v sl pos) env) :=
 fun H s Q E S m q=>by
 dsimp only [Zai,Zad,Zar,Zbl,Za6,x_ao,Zbm,Zao,Za0,Zav,Zap,Zaz,Zan,Zak,x_bm,Zbh,Zau,Zbc,Zch,Zas,Za7,Za5,Zbd,Zba] at q;refine Subscript_ (wpAny_mono (ha H s _ E S m q) (fun u s₁ z=>?_) fun _ _ z=>z);obtain ⟨au,H₁,hu,S₁,m₁,q₁⟩:=z;refine wpAny_mono (hi H₁ s₁ _ E S₁ m₁ q₁) (fun w s₂ z=>?_) fun _ _ z=>z;obtain ⟨aw,H₂,hw,S₂,m₂,q₂⟩:=z;exact Z0u C hu hw S₂ m₂ q₂ (by intro o j;cases sl<;>first | rfl | exact Bool.noConfusion hns)
def HO (g:Gx) (A:Around) (R:RR) (V:VV) (s₀:Shared) (env:Env):Option X→Option Expr→Prop
 | none,none=>True
 | some x,some e=>HX g A R V s₀ x (eval e env)
 | _,_=>False
theorem Zw9 {o:Option X} {oe:Option Expr} {H:Zaa} {s:Shared} {Q:Option AV→Zaa→Prop} {E:String→Zaa→Prop} (h:HO g A R V s₀ env o oe) (S:St g.c R H s.heap) (m:Sm s₀ s) (q:wpO g o V Q E H) :
  wpAny (model g.c.prog g.c.w) A (valueOrNone (evalOpt oe env)) (fun v s'=>∃ a H',((a=none∧v = .none)∨∃ x,a=some x∧VR x v)∧St g.c R H' s'.heap∧Sm s₀ s'∧Q a H') (TE g R s₀ E) s:=by
 cases o with
 | none=>cases oe with
  | none=>exact wpAny_pure ⟨none,H,.inl ⟨rfl,rfl⟩,S,m,q⟩
  | some=>exact h.elim
 | some x=>cases oe with
  | none=>exact h.elim
  | some e =>
   rw [Zbk] at q;refine wpAny_mono (h H s _ E S m q) (fun v s' z=>?_) fun _ _ z=>z;obtain ⟨a,H',hv,S',m',q'⟩:=z;exact ⟨some a,H',.inr ⟨a,rfl,hv⟩,S',m',q'⟩
theorem Zt9 {a:X} {lo hi st:Option X} {v:Expr} {l u t:Option Expr} {p pos:Pos} (ha:HX g A R V s₀ a (eval v env)) (hl:HO g A R V s₀ env lo l) (hu:HO g A R V s₀ env hi u) (ht:HO g A R V s₀ env st t) :
  HX g A R V s₀ (.slice a lo hi st) (eval (.Subscript v (.Slice l u t p) pos) env):=fun H s Q E S m q=>by
 dsimp only [Zai,Zad,Zar,Zbl,Za6,x_ao,Zbm,Zao,Za0,Zav,Zap,Zaz,Zan,Zak,x_bm,Zbh,Zau,Zbc,Zch,Zas,Za7,Za5,Zbd,Zba] at q;refine Subscript_ (wpAny_mono (ha H s _ E S m q) (fun o s₁ z=>?_) fun _ _ z=>z);obtain ⟨ao,H₁,ho,S₁,m₁,q₁⟩:=z;refine rl (arm_eval_Slice ..) ?_;refine wpAny_bind (wpAny_mono (Zw9 hl S₁ m₁ q₁) (fun vl s₂ z=>?_) fun _ _ z=>z);obtain ⟨al,H₂,hvl,S₂,m₂,q₂⟩:=z;refine wpAny_bind (wpAny_holding (wpAny_mono (Zw9 hu S₂ m₂ q₂) (fun vu s₃ z=>?_) fun _ _ z=>z));obtain ⟨au,H₃,hvu,S₃,m₃,q₃⟩:=z;refine wpAny_bind (wpAny_holding (wpAny_mono (Zw9 ht S₃ m₃ q₃) (fun vt s₄ z=>?_) fun _ _ z=>z));obtain ⟨at',H₄,hvt,S₄,m4,q₄⟩:=z;unfold newFields;refine wpAny_newObj_type ?_ (by show (3:Nat)≤sizeLine+2;exact Nat.le_of_ble_eq_true (by rfl));exact Zv5 ho hvl hvu hvt S₄ m4 q₄
theorem Zrf {a:AV} {v:Value} (h:VR a v):handedIn v=true:=by cases h<;>rfl
theorem Zgo {a b:String} (h:ofString a=ofString b):a=b:=by
 rw [Str.ofString_eq_toList,Str.ofString_eq_toList] at h;have h1:=congrArg (fun x:Str=>x.cps.toList) h;dsimp only [List.toList_toArray] at h1;have h2:=(List.map_inj_right (f:=Char.toNat) fun x y e=>Char.ext (UInt32.toNat_inj.mp e)).mp h1;exact String.ext h2
theorem Zgl {n:String} {es:List (String×AV)} {ents:List DictEntry} (h:Zck es ents):OVR (Zed es n) ((ents.find? (·.key.isStr (ofString n))).map (·.val))∧(ents.any (·.refKey))=false:=by
 induction es generalizing ents with
 | nil=>cases ents with
  | nil=>exact ⟨.none,rfl⟩
  | cons=>exact h.elim
 | cons na r ih =>
  cases ents with
  | nil=>exact h.elim
  | cons e q =>
  obtain ⟨n',a⟩:=na;obtain ⟨⟨t,hk⟩,hv,hr⟩:=h;obtain ⟨i1,i2⟩:=ih hr;refine ⟨?_,?_⟩
  ·unfold Zed at i1 ⊢;simp only [find?_cons,hk,Value.isStr];by_cases z:n'=n
   ·subst z;simp;exact .some hv
   ·have:(ofString n'==ofString n)=false:=by
     apply beq_eq_false_iff_ne.mpr;intro w;exact z (Zgo w)
    simp only [this,z];exact i1
  ·refine rl any_cons (rl i2 ?_);simp [DictEntry.refKey,hk]
theorem Zlj {v:Expr} {at':Str} (hb:Zf2 v=true):attributeBase v at' env (eval v env)=eval v env:=by
 cases v with
 | Call f as ks p=>exact Zex (m:=fun f=>attributeBase (.Call f as ks p) at' env (eval (.Call f as ks p) env)=eval (.Call f as ks p) env) (show (Ziy f fun _ _ _=>true)=true from hb) fun _ _ _ _=>rfl
 | _=>rfl
inductive Zuu (c:Cx) (h:Heap) (p:Addr) (cl:String) (es:List (String×AV)):Prop
 | mk {d ents k} (I:InstAt h p (instObj (c.ca cl) d) (c.ca cl) (some (dictOf ents k))) (a:Zck es ents):Zuu c h p cl es
theorem Zvg {H:Zaa} {h:Heap} {p:Addr} {cl:String} {es:List (String×AV)} (S:St g.c R H h) (e:H p=some (.inst cl es)):Zuu g.c h p cl es:=by
 obtain ⟨d,ents,k,x1,x2,x3,x4,_⟩:=S.setAttr e;exact .mk ⟨x1,rfl,rfl,x2⟩ x3
theorem Zup {H:Zaa} {h:Heap} {n:String} {x:AV} {u:Value} {Q:AV→Zaa→Prop} {m:Value→Prop} (S:St g.c R H h) (ho:VR x u) (q:Zso g.c.P n x Q H)
  (f:∀ p cl es v,g.c.P.attrs.contains (cl,n)=true→Zuu g.c h p cl es→Zed es n=some v→Q v H→m (.ref p)):m u:=by
 cases ho with
 | ref p =>
  obtain ⟨oo,e⟩:∃ oo,H p=oo:=⟨_,rfl⟩
  dsimp only [Zso] at q;rw [e] at q;cases oo with
  | none=>exact q.elim
  | some oo=>cases oo with
   | inst cl es =>
    obtain ⟨hat,q⟩:=q;cases hw:Zed es n with
    | none=>rw [hw] at q;exact q.elim
    | some w=>rw [hw] at q;exact f p cl es w hat (Zvg S e) hw q
   | book B =>
    obtain ⟨rfl,hat,q⟩:=q;obtain ⟨fr,sa,pa,d,ents,k,x1,x2,x3⟩:=S.bookAttr e;exact f p "Book" _ _ hat (.mk ⟨x1,rfl,rfl,x2⟩ x3) rfl q
   | _=>exact q.elim
 | _=>exact q.elim
theorem Ztu {H:Zaa} {h:Heap} {n:String} {x:AV} {u:Value} {K:String→Addr→Zaa→Prop} {m:Value→Prop} (S:St g.c R H h) (ho:VR x u) (q:Zsn g.c.P n x K H)
  (f:∀ p cl es,g.c.P.meths.contains (cl,n)=true→Zuu g.c h p cl es→Zed es n=none→K (cl++"."++n) p H→m (.ref p)):m u:=by
 cases ho with
 | ref p =>
  obtain ⟨oo,e⟩:∃ oo,H p=oo:=⟨_,rfl⟩
  dsimp only [Zsn] at q;rw [e] at q;cases oo with
  | none=>exact q.elim
  | some oo=>cases oo with
   | inst cl es=>exact f p cl es q.1 (Zvg S e) q.2.1 q.2.2
   | book B =>
    obtain ⟨hat,hno,q⟩:=q;obtain ⟨fr,sa,pa,d,ents,k,x1,x2,x3⟩:=S.bookAttr e;refine f p "Book" _ hat (.mk ⟨x1,rfl,rfl,x2⟩ x3) ?_ q;simp only [bookAttrs,contains_cons,List.contains_nil,Bool.or_false,Bool.or_eq_false_iff,beq_eq_false_iff_ne] at hno;obtain ⟨n1,n2,n3,n4⟩:=hno;simp [Zed,n1.symm,n2.symm,n3.symm,n4.symm]
   | _=>exact q.elim
 | _=>exact q.elim
theorem Zw6 {a:X} {n:String} {v:Expr} {pos:Pos} (C:g.c.Ok mg mb) (PO:PgOk g.c) (hb:Zf2 v=true) (ha:HX g A R V s₀ a (eval v env)):HX g A R V s₀ (.attr a n) (eval (.Attribute v (ofString n) pos) env) :=
 fun H s Q E S m q=>by
 replace q:wpX g a V (fun x H=>Zso g.c.P n x Q H) E H:=q;refine rl (arm_eval_Attribute ..) (rl (Zlj hb ..) ?_);refine wpAny_bind (wpAny_mono (ha H s _ E S m q) (fun o s₁ z=>?_) fun _ _ z=>z);obtain ⟨ao,H₁,ho,S₁,m₁,q₁⟩:=z;refine wpAny_bind (wpAny_standAt (wpAny_bind (wpAny_holding ?_)));refine Zup (m:=fun o=>wpAny (model g.c.prog g.c.w) A (getAttr o (ofString n) true) (fun a s'=>wpAny (model g.c.prog g.c.w) A (do letTemporaryGo v o a;pure a) (TQ g R s₀ Q) (TE g R s₀ E) s') (TE g R s₀ E) s₁) S₁ ho q₁ fun p cl es w hat O hw q₁=>?_;obtain ⟨c1,c2,c3,_⟩:=PO.attr cl n hat;obtain ⟨I,x3⟩:=O;obtain ⟨f1,f2⟩:=Zgl (n:=n) x3;rw [hw] at f1;generalize hf:(List.find? (fun x:DictEntry=>x.key.isStr (ofString n)) _)=fe at f1;cases fe with
 | none=>cases f1
 | some en =>
  cases f1 with
  | some hv =>
   refine get_value (v:=en.val) (C.kin.keeps S₁.stays) I (plainGet_of c1).1 (findObj_own c2 c3 rfl ?_) ?_ ?_
   ·rw [lookIn_dict];unfold getL;rw [hf]
   ·exact Zrf hv
   ·exact wpAny_bind (wpAny_letTemporaryGo (wpAny_pure (TQ.toks hv S₁ m₁ q₁)))
end
end Mine
end
section
namespace Mine
section
variable {g:Gx} {A:Around} {R:RR} {V:VV} {s₀:Shared} {env:Env} {mg mb:Str→Option Value} {e₀:Env} {l₀:List Env}
theorem hxsL {pos:Pos} {xs:List X} {es:List Expr} (h:Zfe g A R V s₀ env xs es):∀ (H:Zaa) (s:Shared) (Q:List AV→Zaa→Prop) (E:String→Zaa→Prop),St g.c R H s.heap→Sm s₀ s→wpXs g xs V Q E H →
  wpAny (model g.c.prog g.c.w) A (spliced (backTo pos (starEach es env))) (fun vs s'=>vs.length=es.length∧TQs g R s₀ Q vs s') (TE g R s₀ E) s:=by
 induction h with
 | nil=>exact fun H s Q E S m q=>spliced_nil ⟨rfl,[],H,.nil,S,m,q⟩
 | cons hx r ih =>
  intro H s Q E S m q;dsimp only [Zag,Zae] at q
  (refine rl (Zbf hx.2) ?_;dsimp only [Zcn])
  refine spliced_cons (wpAny_mono (hx.1 H s _ E S m q) (fun v s₁ z=>?_) fun _ _ z=>z);obtain ⟨av,H₁,hv,S₁,m₁,q₁⟩:=z;refine wpAny_mono (ih H₁ s₁ _ E S₁ m₁ q₁) (fun vs s₂ z=>?_) fun _ _ z=>z;obtain ⟨hl,as,H₂,hvs,S₂,m₂,q₂⟩:=z;exact ⟨congrArg Nat.succ hl,av::as,H₂,.cons hv hvs,S₂,m₂,q₂⟩
theorem Zw1 {xs:List X} {es:List Expr} {pos:Pos} (hx:Zfe g A R V s₀ env xs es) (hl:es.length<1000):HX g A R V s₀ (.list xs) (eval (.List es pos) env):=fun H s Q E S m q=>by
 dsimp only [Zai,Zad,Zar,Zbl,Za6,x_ao,Zbm,Zao,Za0,Zav,Zap,Zaz,Zan,Zak,x_bm,Zbh,Zau,Zbc,Zch,Zas,Za7,Za5,Zbd,Zba] at q;refine wpAny_List (wpAny_mono (hxsL hx H s _ E S m q) (fun vs s₁ z=>?_) fun _ _ z=>z);obtain ⟨hn,as,H₁,hv,S₁,m₁,q₁⟩:=z;refine ⟨by refine rl hn ?_;unfold sizeLine;lia,?_⟩;obtain ⟨e,S'⟩:=S₁.newObj (o:=.list as) (le_refl _) (fun _ _ z=>Heap.get?_push_of_some _ z) (by refine rl (Heap.size_push ..) ?_;lia) (by intro _ _ z;contradiction) (fun D=>⟨vs,0,Heap.get?_push_size _ rfl,hv⟩);exact ⟨_,_,.ref _,S',m₁.heap _,q₁ _ e⟩
theorem Zt8 {xs:List X} {es:List Expr} {k:Nat} {pos:Pos} (hx:Zfe g A R V s₀ env xs es) (hl:es.length<1000):HX g A R V s₀ (.tuple xs) (eval (.Tuple es k pos) env):=fun H s Q E S m q=>by
 dsimp only [Zai,Zad,Zar,Zbl,Za6,x_ao,Zbm,Zao,Za0,Zav,Zap,Zaz,Zan,Zak,x_bm,Zbh,Zau,Zbc,Zch,Zas,Za7,Za5,Zbd,Zba] at q;refine wpAny_Tuple (wpAny_mono (hxsL hx H s _ E S m q) (fun vs s₁ z=>?_) fun _ _ z=>z);obtain ⟨hn,as,H₁,hv,S₁,m₁,q₁⟩:=z;refine ⟨by refine rl hn ?_;unfold sizeLine;lia,?_⟩;obtain ⟨e,S'⟩:=S₁.newObj (o:=.tuple as) (le_refl _) (fun _ _ z=>Heap.get?_push_of_some _ z) (by refine rl (Heap.size_push ..) ?_;lia) (by intro _ _ z;contradiction) (fun D=>⟨vs,0,Heap.get?_push_size _ rfl,hv⟩);exact ⟨_,_,.ref _,S',m₁.heap _,q₁ _ e⟩
theorem Zub {pos:Pos}:HX g A R V s₀ (.dict [] []) (eval (.Dict [] [] pos) env):=fun H s Q E S m q=>by
 dsimp only [Zai,Zad,Zar,Zbl,Za6,x_ao,Zbm,Zao,Za0,Zav,Zap,Zaz,Zan,Zak,x_bm,Zbh,Zau,Zbc,Zch,Zas,Za7,Za5,Zbd,Zba] at q;refine wpAny_Dict_empty ?_;obtain ⟨e,S'⟩:=S.newObj (o:=.dict 0 []) (h':=s.heap.push { cls:=.type "dict",data:=.dict #[] }) (le_refl _) (fun _ _ z=>Heap.get?_push_of_some _ z) (by refine rl (Heap.size_push ..) ?_;lia) (by intro _ _ z;contradiction) (fun D=>⟨[],⟨_,#[],Heap.get?_push_size _ rfl,⟨rfl,rfl,rfl⟩,rfl,fun _ h=>by simp at h,.nil,nodup_nil⟩,.nil⟩)
 ·exact ⟨_,_,.ref _,S',m.heap _,q _ e⟩
theorem Zj0 {pos:Pos}:∀ {xs:List X} {es:List Expr},Zfe g A R V s₀ env xs es→(backTo pos (starEach es env)).all (fun x=>!x.1)=true
 | _,_,.nil=>rfl
 | _,_,.cons hx r=>by
  (refine rl (Zbf hx.2) ?_;dsimp only [Zcn];refine rl List.all_cons (rl (Zj0 r) ?_));rfl
theorem Zks {M:Model} {E:Value→Shared→Prop} {s:Shared} {o:Expr} {name:Str} {apos pos:Pos} {args:List Expr} {Q:Value→Shared→Prop} (hb:Zf2 o=true) (hall:(backTo pos (starEach args env)).all (fun x=>!x.1)=true)
  (hlen:args.length<29) (hline:(apos.endLine==pos.line)=true)
  (h:wpAny M A (eval o env) (fun ov s₁=>∀ pl,wpAny M A (getMethod ov name pl) (fun fx s₂=>wpAny M A (callWith pos fx.1 fx.2 (backTo pos (starEach args env)) []) Q E s₂) E s₁) E s) :
  wpAny M A (eval (.Call (.Attribute o name apos) args [] pos) env) Q E s:=by
 refine rl (arm_eval_Call ..) (rl (Zlj hb ..) ?_);refine wpAny_bind (wpAny_mono h (fun ov s₁ h₁=>?_) fun _ _ e=>e);refine wpAny_bind (wpAny_standAt ?_);have hform:methodCallForm (args.length+([]:List Keyword).length) (backTo pos (starEach args env)) (backToKw pos (keywordEach [] env))=true:=by
  unfold methodCallForm;refine rl (hall ..) ?_;simp only [Bool.true_and];show (true&&decide (args.length+0+0<30))=true;simp;lia
 have hpos:methodCallPos true o env apos pos=pure pos:=by unfold methodCallPos;simp [hline]
 unfold methodCall;refine rl (hform ..) ?_;refine wpAny_bind (wpAny_holding (wpAny_mono (h₁ _) (fun fx s₂ h₂=>?_) fun _ _ e=>e));exact wpAny_bind (wpAny_of_eq hpos h₂)
theorem Zw0 {a:X} {mt:String} {xs:List X} {o:Expr} {args:List Expr} {apos pos:Pos} (C:g.c.Ok mg mb) (PO:PgOk g.c) (ev:Ev g A R e₀ l₀) (hb:Zf2 o=true) (hline:(apos.endLine==pos.line)=true) (hlen:args.length<29)
  (ha:HX g A R V s₀ a (eval o env)) (hx:Zfe g A R V s₀ env xs args):HX g A R V s₀ (.meth a mt xs) (eval (.Call (.Attribute o (ofString mt) apos) args [] pos) env):=fun H s Q E S m q=>by
 replace q:wpX g a V (fun x H=>Zsn g.c.P mt x (fun f p H=>wpXs g xs V (fun vs H=>CallOK g.c g.n g.md f (.ref p::vs) Q E H) E H) H) E H:=q;refine Zks hb (Zj0 hx) hlen hline (wpAny_mono (ha H s _ E S m q) (fun ov s₁ z=>?_) fun _ _ z=>z);obtain ⟨ao,H₁,ho,S₁,m₁,q₁⟩:=z;intro pl;refine Ztu (m:=fun ov=>wpAny _ A (getMethod ov (ofString mt) pl) _ (TE g R s₀ E) s₁) S₁ ho q₁ fun p cl es hmm O hno q₁=>?_;obtain ⟨c1,c2,c3,c4⟩:=PO.meth cl mt hmm;obtain ⟨I,x3⟩:=O;obtain ⟨f1,f2⟩:=Zgl (n:=mt) x3;rw [hno] at f1;generalize hf:(List.find? (fun x:DictEntry=>x.key.isStr (ofString mt)) _)=fe at f1;cases fe with
 | some=>cases f1
 | none =>
 refine method_fn (C.kin.keeps S₁.stays) I (plainGet_of c1).1 (plainGet_of c1).2 c2 (beq_iff_eq.mp c3) ?_ ?_
 ·show (lookIn (ofString mt) (dictOf _ _)).map _=_;refine rl (lookIn_dict ..) ?_;unfold getL;refine rl (hf ..) (rl (f2 ..) ?_);rfl
 ·exact Zrt C c4 hx S₁ m₁ q₁ fun as vs H' s' k1 k2 k3 k4=>Zld ev (.cons (.ref p) k1) k2 k3 k4
theorem Zs3 {p:Addr} {es:List (Str×AV)} {ep:Nat} {H:Zaa} {s:Shared} {Q:AV→Zaa→Prop} {E:Value→Shared→Prop} (C:g.c.Ok mg mb) (S:St g.c R H s.heap) (m:Sm s₀ s) (e:H p=some (.dict ep es)) (q:∀ z,H z=none→Q (.ref z) (up H z (.vals p))) :
  wpAny (model g.c.prog g.c.w) A (call (.builtin "dict.values") [.ref p]) (TQ g R s₀ Q) E s:=by
 obtain ⟨kvs,hd,hr⟩:=Zbu S e;refine call_meetsIn PySem.F.slot_dict_values hd.dictOf.typeIs PySem.F.entry_dict_values (PySem.F.args_dict_values_1 _) (meets_dict_values (strKind g.c.prog g.c.w) p (Zi5 C S e)) ⟨⟨kvs,hd.dictOf⟩,?_⟩;obtain ⟨z,S'⟩:=S.newObj (o:=.vals p) (le_refl _) (fun _ _ z=>Heap.get?_push_of_some _ z) (by refine rl (Heap.size_push ..) ?_;exact le_succ _) (by intro _ _ z;contradiction) (fun D=>Heap.get?_push_size _ rfl);exact ⟨_,_,.ref _,S',m.heap _,q _ z⟩
theorem Zv8 {p:Addr} {es:List (Str×AV)} {ep:Nat} {H:Zaa} {s:Shared} {Q:AV→Zaa→Prop} {E:Value→Shared→Prop} (C:g.c.Ok mg mb) (S:St g.c R H s.heap) (m:Sm s₀ s) (e:H p=some (.dict ep es)) (q:∀ z,H z=none→Q (.ref z) (up H z (.itms p))) :
  wpAny (model g.c.prog g.c.w) A (call (.builtin "dict.items") [.ref p]) (TQ g R s₀ Q) E s:=by
 obtain ⟨kvs,hd,hr⟩:=Zbu S e;refine call_meetsIn PySem.F.slot_dict_items hd.dictOf.typeIs PySem.F.entry_dict_items (PySem.F.args_dict_items_1 _) (meets_dict_items (strKind g.c.prog g.c.w) p (Zi5 C S e)) ⟨⟨kvs,hd.dictOf⟩,?_⟩;obtain ⟨z,S'⟩:=S.newObj (o:=.itms p) (le_refl _) (fun _ _ z=>Heap.get?_push_of_some _ z) (by refine rl (Heap.size_push ..) ?_;exact le_succ _) (by intro _ _ z;contradiction) (fun D=>Heap.get?_push_size _ rfl);exact ⟨_,_,.ref _,S',m.heap _,q _ z⟩
theorem VRs.erase:∀ {as:List AV} {vs:List Value} (j:Nat),VRs as vs→VRs (as.eraseIdx j) (vs.eraseIdx j)
 | _,_,_,.nil=>.nil
 | _,_,0,.cons _ h=>h
 | _,_,j+1,.cons h1 h=>.cons h1 (VRs.erase j h)
noncomputable def BM.id:BM→String
 | .append=>"list.append" | .index=>"list.index" | .count=>"list.count" | .clear=>"list.clear" | .values=>"dict.values" | .pop=>"dict.pop" | .upper=>"str.upper" | .items=>"dict.items" | .remove=>"list.remove"
theorem s_bm {o:AV} {u:Value} {bm:BM} {as:List AV} {vs:List Value} {H:Zaa} {s:Shared} {Q:AV→Zaa→Prop} {E:Value→Shared→Prop} (C:g.c.Ok mg mb) (un:A.units+1+64<cLine) (ho:VR o u) (hv:VRs as vs) (S:St g.c R H s.heap) (m:Sm s₀ s) (q:wbm o bm as Q H) :
  wpAny (model g.c.prog g.c.w) A (call (.builtin bm.id) (u::vs)) (TQ g R s₀ Q) E s:=by
 cases bm with
 | append=>exact Zdv (m:=fun vs=>wpAny _ A (call (.builtin "list.append") (u::vs)) (TQ g R s₀ Q) E s) hv q fun a v h q=>Zxm (m:=fun u=>wpAny _ A (call (.builtin "list.append") [u,v]) (TQ g R s₀ Q) E s) ho q fun p xs e q=>Zs4 h S m e q.1 q.2
 | values=>cases hv with
  | nil=>exact Zr8 (m:=fun u=>wpAny _ A (call (.builtin "dict.values") [u]) (TQ g R s₀ Q) E s) ho q fun p ep es e q=>Zs3 C S m e q
  | cons=>exact q.elim
 | items=>cases hv with
  | nil=>exact Zr8 (m:=fun u=>wpAny _ A (call (.builtin "dict.items") [u]) (TQ g R s₀ Q) E s) ho q fun p ep es e q=>Zv8 C S m e q
  | cons=>exact q.elim
 | _=>exact q.elim
theorem Zyb {o:AV} {u:Value} {bm:BM} {pl:Sem Bool} {H:Zaa} {s:Shared} {Q:Value×List Value→Shared→Prop} {E:Value→Shared→Prop} (ho:VR o u) (S:St g.c R H s.heap) (hon:bmOn bm o H) (q:Q (.builtin bm.id,[u]) s) :
  wpAny (model g.c.prog g.c.w) A (getMethod u (ofString bm.str) pl) Q E s:=by
 cases ho with
 | str x t hx=>cases hon;exact getMethod_builtin (typeIs_str _ _ _) PySem.F.plainAttrs_str PySem.F.slot_str_upper PySem.F.type_str_upper (fun a h=>by cases h) q
 | ref p =>
  obtain ⟨oo,e⟩:∃ oo,H p=oo:=⟨_,rfl⟩
  dsimp only [bmOn] at hon;rw [e] at hon;cases oo with
  | none=>exact hon.elim
  | some oo =>
  cases oo with
  | list xs =>
   obtain ⟨ws,n,k1,k2,k3⟩:=Zbe S e;have k0:∀ a,Value.ref p = .ref a→∃ o,s.heap.get? a=some o∧o.dict=none:=fun a h=>by cases h;exact ⟨_,k1,rfl⟩
   rcases hon with rfl | rfl | rfl | rfl | rfl
   ·exact getMethod_builtin ⟨_,k1,rfl⟩ PySem.F.plainAttrs_list PySem.F.slot_list_append PySem.F.type_list_append k0 q
   ·exact getMethod_builtin ⟨_,k1,rfl⟩ PySem.F.plainAttrs_list PySem.F.slot_list_clear PySem.F.type_list_clear k0 q
   ·exact getMethod_builtin ⟨_,k1,rfl⟩ PySem.F.plainAttrs_list PySem.F.slot_list_index PySem.F.type_list_index k0 q
   ·exact getMethod_builtin ⟨_,k1,rfl⟩ PySem.F.plainAttrs_list PySem.F.slot_list_count PySem.F.type_list_count k0 q
   ·exact getMethod_builtin ⟨_,k1,rfl⟩ PySem.F.plainAttrs_list PySem.F.slot_list_remove PySem.F.type_list_remove k0 q
  | dict ep es =>
   obtain ⟨kvs,⟨od,es,k1,kc,_⟩,hr⟩:=Zbu S e;have k0:∀ a,Value.ref p = .ref a→∃ o,s.heap.get? a=some o∧o.dict=none:=fun a h=>by cases h;exact ⟨_,k1,kc.2.1⟩
   rcases hon with rfl | rfl | rfl
   ·exact getMethod_builtin ⟨_,k1,kc.1⟩ PySem.F.plainAttrs_dict PySem.F.slot_dict_values PySem.F.type_dict_values k0 q
   ·exact getMethod_builtin ⟨_,k1,kc.1⟩ PySem.F.plainAttrs_dict PySem.F.slot_dict_pop PySem.F.type_dict_pop k0 q
   ·exact getMethod_builtin ⟨_,k1,kc.1⟩ PySem.F.plainAttrs_dict PySem.F.slot_dict_items PySem.F.type_dict_items k0 q
  | _=>exact hon.elim
 | _=>exact hon.elim
theorem Z1c {a:X} {bm:BM} {xs:List X} {o:Expr} {args:List Expr} {apos pos:Pos} (C:g.c.Ok mg mb) (ev:Ev g A R e₀ l₀) (hb:Zf2 o=true) (hline:(apos.endLine==pos.line)=true) (hlen:args.length<29)
  (ha:HX g A R V s₀ a (eval o env)) (hx:Zfe g A R V s₀ env xs args):HX g A R V s₀ (.bm a bm xs) (eval (.Call (.Attribute o (ofString bm.str) apos) args [] pos) env):=fun H s Q E S m q=>by
 dsimp only [Zai,Zad,Zar,Zbl,Za6,x_ao,Zbm,Zao,Za0,Zav,Zap,Zaz,Zan,Zak,x_bm,Zbh,Zau,Zbc,Zch,Zas,Za7,Za5,Zbd,Zba] at q;refine Zks hb (Zj0 hx) hlen hline (wpAny_mono (ha H s _ E S m q) (fun ov s₁ z=>?_) fun _ _ z=>z);obtain ⟨ao,H₁,ho,S₁,m₁,hon,q₁⟩:=z;intro pl;refine Zyb ho S₁ hon ?_;exact Zru (.inl ⟨_,rfl⟩) hx S₁ m₁ q₁ fun as vs H' s' k1 k2 k3 k4=>s_bm C (by have:=ev.aok.units;lia) ho k1 k2 k3 k4
theorem Zzj {sc:Scope} {nm:List Str} {cl:String} {fe:Expr} {args:List Expr} {xs:List X} {pos:Pos} (C:g.c.Ok mg mb) (PO:PgOk g.c) (ev:Ev g A R e₀ l₀) (fr:Frm R env sc nm V) (hn:Zb5 sc cl fe=true)
  (hg:g.c.P.classes.contains cl=true) (hx:Zfe g A R V s₀ env xs args):HX g A R V s₀ (.new cl xs) (eval (.Call fe args [] pos) env):=fun H s Q E S m q=>by
 dsimp only [Zai,Zad,Zar,Zbl,Za6,x_ao,Zbm,Zao,Za0,Zav,Zap,Zaz,Zan,Zak,x_bm,Zbh,Zau,Zbc,Zch,Zas,Za7,Za5,Zbd,Zba] at q;obtain ⟨h1,h2,h3,h4,h5⟩:=PO.cls cl hg;obtain ⟨id,p,rfl⟩:=Zec hn;refine wpAny_Call_NameR (Zk1 C fr S hn h1 ?_);refine Zrt C h2 hx S m q fun as vs H' s' k1 k2 k3 k4=>?_;obtain ⟨hh,gg,dd,t,os⟩:=s';have X:=C.kin.keeps k2.stays;obtain ⟨e,S'⟩:=k2.newInst (cl:=cl);refine wpAny_call (make_core (makes_of X h3) (looks_findIn X h4) (fun self=>bind_fn X self (beq_iff_eq.mp h5)) (.inl rfl) ?_);refine k4 _ e _ (e₀::l₀) R _ _ _ ⟨?_,?_,?_,?_⟩ ev.stk S' (.cons (.ref _) k1) ?_ ?_
 ·exact ev.aok.frames
 ·have:=ev.aok.depth;have hw:(Code.builtin "type.__call__" ⟨.ref (g.c.ca cl)::vs,[]⟩).weight=1:=rfl;show A.depth+(Code.builtin "type.__call__" ⟨.ref (g.c.ca cl)::vs,[]⟩).weight+110+0+8*g.n<recursionLimit;lia
 ·have:=ev.aok.units;have hw:(Code.builtin "type.__call__" ⟨.ref (g.c.ca cl)::vs,[]⟩).cUnits=1:=rfl;show A.units+(Code.builtin "type.__call__" ⟨.ref (g.c.ca cl)::vs,[]⟩).cUnits+100+10*0+60*g.n<cLine;lia
 ·exact ev.aok.hand
 ·rintro av v s' H' z1 z2 z3 ⟨rfl,z4⟩;cases z1;exact ⟨rfl,_,_,.ref _,z2,k3.trans ((Sm.mk' _ _ _).trans z3),z4⟩
 ·exact fun e cl s' H' z1 z2 z3=>⟨e,cl,H',rfl,z1,k3.trans ((Sm.mk' _ _ _).trans z2),z3⟩
end
end Mine
end
section
namespace Mine
section
variable {prog:Program} {w:World} {A:Around} {E:Value→Shared→Prop} {s:Shared} {K:Frag} {x C D:Addr}
open Builtin Builtin.ObjectAttr Builtin.Getset_descriptor in
end
section
variable {g:Gx} {A:Around} {R:RR} {V:VV} {s₀:Shared} {env:Env} {mg mb:Str→Option Value} {e₀:Env} {l₀:List Env}
theorem Zrd {sc:Scope} {nm:List Str} {ty:String} {fe t x:Expr} {a:X} {pos:Pos} (C:g.c.Ok mg mb) (PO:PgOk g.c) (fr:Frm R env sc nm V) (hn:Zb5 sc "isinstance" fe=true) (hg:g.c.P.prims.contains "isinstance" = true)
  (ht:(g.c.P.prims.contains ty&&["int","bool","str","list"].contains ty)=true) (hn':Zb5 sc ty t=true) (hx:HX g A R V s₀ a (eval x env)) (hs:Zc3 x=true) :
  HX g A R V s₀ (.isinst a ty) (eval (.Call fe [x,t] [] pos) env):=
 Zzo C PO fr hn hg (and2 ht).1 hn' (by have:=contains_iff_mem.mp (and2 ht).2;simpa only [mem_cons,not_mem_nil,or_false] using this) hx hs
end
end Mine
end
section
namespace Mine
section
variable {c:Cx} {R:RR} {H:Zaa} {h h':Heap}
theorem St1.noted (S:St1 c R H h) {ls:List Addr}
  (hls:∀ a∈ls,(∃ m,R a=some (.ns m))∨(R a=none∧H a=none∧c.base.get? a=none∧∃ o vs,h.get? a=some o∧o.data = .fields vs))
  (k:∀ b o,h.get? b=some o→b ∉ ls→h'.get? b=some o) (sl:∀ b o,h.get? b=some o→(∀ vs,o.data≠.fields vs)→∃ t,h'.get? b=some { o with slots:=t })
  (hsz:c.base.objs.size≤h'.objs.size):St1 c R H h':=by
 obtain ⟨s1,s2,s3,D,s4⟩:=S;have hb:∀ b o,c.base.get? b=some o→b ∉ ls:=fun b o e hm=>by
  rcases hls b hm with ⟨m,q⟩ | ⟨_,_,q,_⟩
  ·have:=leN (s3 b _ q).1;have:=lts e;omega
  ·rw [q] at e;contradiction
 have hH:∀ a o,H a=some o→a ∉ ls:=fun a o e hm=>by
  rcases hls a hm with ⟨m,q⟩ | ⟨_,q,_⟩
  ·have:=(s4.above a o e).2;rw [q] at this;contradiction
  ·rw [q] at e;contradiction
 refine ⟨fun b o e=>k b o (s1 b o e) (hb b o e),hsz,fun b r e=>⟨(s3 b r e).1,?_⟩,D,⟨fun a o e=>?_,s4.above,s4.dict,s4.inj⟩⟩
 ·by_cases q:b∈ls
  ·rcases hls b q with ⟨m,z⟩ | ⟨z,_⟩
   ·rw [e] at z;obtain rfl:=osi z;obtain ⟨o,es,ep,ho,hd,rr⟩:=(s3 b _ e).2;obtain ⟨t,ht⟩:=sl b o ho (fun vs w=>by rw [hd] at w;contradiction);exact ⟨_,es,ep,ht,hd,rr⟩
   ·rw [e] at z;contradiction
  ·exact (s3 b r e).2.agree fun ob z=>k b ob z q
 ·refine (s4.rep a o e).agree (fun ob z=>k a ob z (hH a o e)) fun cl es eo=>⟨rfl,fun ob z=>?_⟩
  subst eo;refine k _ ob z fun hm=>?_;obtain ⟨_,y2,y3⟩:=s4.dict a cl es e;rcases hls _ hm with ⟨m,q⟩ | ⟨_,_,_,o',vs,q1,q2⟩
  ·rw [q] at y2;contradiction
  ·obtain ⟨_,ents,n,w,_⟩:=s4.rep a _ e;rw [w] at q1;cases q1;cases q2
theorem St1.frames (S:St1 c R H h) {l:List Env} (hs:Stk R l) {B:Heap} (hB:∀ e∈l,B.get? e.locals=none):h.FunFrames B l:=by
 induction l with
 | nil=>trivial
 | cons e l ih =>
  have F:=hs e (.head _);obtain ⟨m,hm⟩:=F.ns;obtain ⟨o,es,ep,ho,hd,_⟩:=(S.res _ _ hm).2;exact ⟨by refine rl F.kind ?_;simp,⟨e.locals,o,F.frame,hB e (.head _),ho,fun vs w=>by rw [hd] at w;contradiction⟩,ih (fun x hx=>hs x (.tail _ hx)) fun x hx=>hB x (.tail _ hx)⟩
def FlOk (env:Env) (fl:Value):Prop:=fl = .ellipsis∨fl = .none∨fl=rawInt env.locals
theorem Zk8 {e:Addr} {cl:String} {env:Env} {outer:List Env} {ls:List Addr} {a0 fl:Value} (X:St1 c R H h) (re:R e=none) (he:H e=none) (be:c.base.get? e=none) (hs:Stk R (env::outer))
  (hls:∀ a∈ls,(∃ m,R a=some (.ns m))∨(R a=none∧H a=none∧c.base.get? a=none∧∃ o vs,h.get? a=some o∧o.data = .fields vs))
  (N:Heap.NotedW (hideAll h ls) (env::outer) e (.ref (c.ca cl)) a0 fl h h') (hfl:fl≠.ellipsis) (kn:(c.P.excs.lookup cl).isSome=true):ExcSt1 c R H e cl fl h':=by
 have n1:=N.1;have n2:=N.2.1;have n3:=N.2.2.1;have n4:=N.2.2.2;have F:=hs env (.head _);obtain ⟨m,hm⟩:=F.ns;obtain ⟨o,es,ep,ho,hd,_⟩:=(X.res _ _ hm).2;obtain ⟨t,ht⟩:=n4 _ o ho (fun vs w=>by rw [hd] at w;contradiction);have hsz:c.base.objs.size≤h'.objs.size:=by
  have h1:=leN (X.res _ _ hm).1;have h2:=lts ht;omega
 have S':=X.noted hls (fun b o e q=>n1 b o (hideAll_get _ e q)) n4 hsz;obtain ⟨oe,vs,T,oT,ts,h1,⟨h2,h3⟩,h4,h5,h6,h7,h8,h9,h10⟩:=n3;have out:∀ b o,h.get? b=some o→b ∉ ls→b≠T:=fun b o e q z=>by
  have:=hideAll_get ls e q;rw [z,h6] at this;contradiction
 refine ⟨S',re,he,be,.traced h1 h2 h4 h3 h5 h7 ?_ ?_ ?_ h8 h9 h10 hfl,kn⟩
 ·cases q:R T with
  | none=>rfl
  | some r =>
   exfalso
   obtain ⟨ob,hob⟩:=(X.res _ _ q).2.there;by_cases z:T∈ls
   ·rcases hls T z with ⟨m',q'⟩ | ⟨q',_⟩
    ·obtain ⟨o',es',ep',ho',hd',_⟩:=(S'.res _ _ q').2;rw [h8] at ho';cases ho';rw [h9] at hd';cases hd'
    ·rw [q] at q';contradiction
   ·exact out T ob hob z rfl
 ·cases q:H T with
  | none=>rfl
  | some r =>
   exfalso
   obtain ⟨D,s4⟩:=X.rep;obtain ⟨ob,hob⟩:=(s4.rep _ _ q).there;by_cases z:T∈ls
   ·rcases hls T z with ⟨m',q'⟩ | ⟨_,q',_⟩
    ·have:=(s4.above _ _ q).2;rw [q'] at this;contradiction
    ·rw [q] at q';contradiction
   ·exact out T ob hob z rfl
 ·cases q:c.base.get? T with
  | none=>rfl
  | some ob =>
   exfalso
   by_cases z:T∈ls
   ·rcases hls T z with ⟨m',q'⟩ | ⟨_,_,q',_⟩
    ·have:=leN (X.res _ _ q').1;have:=lts q;omega
    ·rw [q] at q';contradiction
   ·exact out T ob (X.stays _ _ q) z rfl
set_option tactic.hygienic true in
theorem Zk9 {M:Model} {A:Around} {E:Value→Shared→Prop} {s:Shared} {e:Addr} {cl:String} {fl:Value} {env:Env} {outer:List Env} {Q:Unit→Shared→Prop} (hfr:A.frames=some (env::outer)) (hs:Stk R (env::outer))
  (X:ExcSt1 c R H e cl fl s.heap) (hfl:FlOk env fl) (q:∀ h',ExcSt1 c R H e cl (rawInt env.locals) h'→Q () { s with heap:=h' }):wpAny M A (noteFrame (.ref e) env) Q E s:=by
 obtain ⟨st,re,he,be,ob,kn⟩:=X;have F:=hs env (.head _);cases ob with
 | fresh h1 =>
  have hls:∀ a∈e::(env::outer).map (·.locals),(∃ m,R a=some (.ns m))∨(R a=none∧H a=none∧c.base.get? a=none∧∃ o vs,s.heap.get? a=some o∧o.data = .fields vs):=by
   intro a ha;rcases mem_cons.mp ha with rfl | ha
   ·exact .inr ⟨re,he,be,_,_,h1,rfl⟩
   ·obtain ⟨x,hx,rfl⟩:=mem_map.mp ha;exact .inl (hs x hx).ns
  unfold noteFrame;simp only [F.frame];refine wpAny_bind (wpAny_field h1 rfl (x:=.none) rfl ?_);refine rl (if_neg (by decide)) ?_;refine wpAny_entryW (base:=hideAll s.heap (e::(env::outer).map (·.locals))) (a0:=_) hfr (st.frames hs fun x hx=>hideAll_none _ (mem_cons_of_mem _ (mem_map_of_mem hx))) F.frame h1 (fun b o z=>of_hideAll _ z) (hideAll_none _ (mem_cons_self ..)) rfl (by simp) rfl fun h' N=>q h' ?_;exact Zk8 st re he be hs hls N (by simp [rawInt]) kn
 | traced h1 h2 h3 h4 h5 h6 h7 h8 h9 h10 h11 h12 h13 =>
  rename_i oe vs T oT ts a0;rcases hfl with rfl | rfl | rfl
  ·exact absurd rfl h13
  ·have hls:∀ a∈e::T::(env::outer).map (·.locals),(∃ m,R a=some (.ns m))∨(R a=none∧H a=none∧c.base.get? a=none∧∃ o vs,s.heap.get? a=some o∧o.data = .fields vs):=by
    intro a ha;rcases mem_cons.mp ha with rfl | ha
    ·exact .inr ⟨re,he,be,_,_,h1,h3⟩
    ·rcases mem_cons.mp ha with rfl | ha
     ·exact .inr ⟨h7,h8,h9,_,_,h10,h11⟩
     ·obtain ⟨x,hx,rfl⟩:=mem_map.mp ha;exact .inl (hs x hx).ns
   refine wpAny_noteFrame_onW (base:=hideAll s.heap (e::T::(env::outer).map (·.locals))) (cls:=.ref (c.ca cl)) (a0:=a0) hfr (st.frames hs fun x hx=>hideAll_none _ (mem_cons_of_mem _ (mem_cons_of_mem _ (mem_map_of_mem hx)))) F.frame
    ⟨oe,vs,T,oT,ts,h1,⟨h2,h4⟩,h3,h5,hideAll_none _ (mem_cons_of_mem _ (mem_cons_self ..)),h6,h10,h11,h12⟩ (fun b o z=>of_hideAll _ z) (hideAll_none _ (mem_cons_self ..)) fun h' N=>q h' ?_
   exact Zk8 st re he be hs hls N (by simp [rawInt]) kn
  ·refine wpAny_noteFrame_againW (base:=hideAll s.heap [T]) (cls:=.ref (c.ca cl)) (a0:=a0) F.frame ⟨oe,vs,T,oT,ts,h1,⟨h2,h4⟩,h3,h5,hideAll_none _ (mem_cons_self ..),h6,h10,h11,h12⟩ ?_;have:=q s.heap ⟨st,re,he,be,.traced h1 h2 h3 h4 h5 h6 h7 h8 h9 h10 h11 h12 h13,kn⟩;exact this
set_option tactic.hygienic true in
theorem Zia {M:Model} {A:Around} {E:Value→Shared→Prop} {s:Shared} {e:Addr} {cl:String} {fl:Value} {f:Option Addr} {Q:Unit→Shared→Prop}
  (X:ExcSt1 c R H e cl fl s.heap) (hfl:fl≠.ellipsis) (q:∀ h',ExcSt1 c R H e cl (f.elim .none fun f=>rawInt f) h'→Q () { s with heap:=h' }):wpAny M A (setFlight (.ref e) f) Q E s:=by
 obtain ⟨st,re,he,be,ob,kn⟩:=X;cases ob with
 | fresh h1=>exact absurd rfl hfl
 | traced h1 h2 h3 h4 h5 h6 h7 h8 h9 h10 h11 h12 h13 =>
  rename_i oe vs T oT ts a0;have hsz3:3<ts.size:=(Array.getElem?_eq_some_iff.mp h12).1;have other:∀ b,b≠T→(s.heap.update T (Obj.mapFields (·.setIfInBounds 3 (f.elim Value.none fun f=>rawInt f)))).get? b=s.heap.get? b :=
   fun b hb=>Heap.get?_update_other _ _ (Ne.symm hb)
  unfold setFlight;refine wpAny_bind (wpAny_field h1 h3 h5 ?_);refine rl (if_pos (show (Value.ref T != Value.none)=true from by simp)) ?_;refine wpAny_setField h10 h11 hsz3 (q _ ⟨?_,re,he,be,?_,kn⟩)
  ·refine st.noted (ls:=[T]) (fun a ha=>.inr ?_) (fun b o hb hn=>(other b (by simpa using hn)).trans hb) (fun b o hb hn=>⟨o.slots,(other b (fun z=>?_)).trans hb⟩) ?_
   ·simp only [mem_singleton] at ha;subst ha;exact ⟨h7,h8,h9,_,_,h10,h11⟩
   ·rw [z,h10] at hb;obtain rfl:=osi hb;exact hn _ h11
   ·refine rl (Heap.size_update ..) ?_;exact st.size
  ·exact .traced ((other e (Ne.symm h6)).trans h1) h2 h3 h4 h5 h6 h7 h8 h9 (Heap.get?_update_self _ h10 (Obj.isFreed_of_fields (Obj.data_mapFields h11 _))) (Obj.data_mapFields h11 _) (by simp [hsz3]) (by cases f<;>simp [rawInt])
theorem Zo1 {M:Model} {A:Around} {E:Value→Shared→Prop} {s:Shared} {e:Addr} {cl:String} {fl:Value} {env:Env} {outer:List Env} {Q:Unit→Shared→Prop} (hfr:A.frames=some (env::outer)) (hs:Stk R (env::outer))
  (X:ExcSt1 c R H e cl fl s.heap) (hfl:FlOk env fl) (q:∀ h',ExcSt1 c R H e cl .none h'→Q () { s with heap:=h' }):wpAny M A (leaving env (.ref e)) Q E s:=by
 unfold leaving;exact wpAny_bind (Zk9 hfr hs X hfl fun h₁ X1=>Zia (s:={ s with heap:=h₁ }) X1 (by simp [rawInt]) fun h₂ X₂=>q h₂ X₂)
end
section
variable {c:Cx} {R:RR} {H:Zaa} {h h':Heap}
theorem Znu {M:Model} {A:Around} {E:Value→Shared→Prop} {s:Shared} {e:Addr} {cl:String} {fl:Value} {env:Env} {outer:List Env} {Q:Unit→Shared→Prop} (hfr:A.frames=some (env::outer)) (hs:Stk R (env::outer))
  (X:ExcSt c R H e cl fl s.heap) (hfl:FlOk env fl) (q:∀ h',ExcSt c R H e cl (rawInt env.locals) h'→Q () { s with heap:=h' }):wpAny M A (noteFrame (.ref e) env) Q E s :=
 let ⟨H₁,X,r⟩:=X;Zk9 hfr hs X hfl fun h' X'=>q h' ⟨H₁,X',r⟩
theorem Zgh {M:Model} {A:Around} {E:Value→Shared→Prop} {s:Shared} {e:Addr} {cl:String} {fl:Value} {f:Option Addr} {Q:Unit→Shared→Prop}
  (X:ExcSt c R H e cl fl s.heap) (hfl:fl≠.ellipsis) (q:∀ h',ExcSt c R H e cl (f.elim .none fun f=>rawInt f) h'→Q () { s with heap:=h' }):wpAny M A (setFlight (.ref e) f) Q E s :=
 let ⟨H₁,X,r⟩:=X;Zia X hfl fun h' X'=>q h' ⟨H₁,X',r⟩
theorem Zrn {M:Model} {A:Around} {E:Value→Shared→Prop} {s:Shared} {e:Addr} {cl:String} {fl:Value} {env:Env} {outer:List Env} {Q:Unit→Shared→Prop} (hfr:A.frames=some (env::outer)) (hs:Stk R (env::outer))
  (X:ExcSt c R H e cl fl s.heap) (hfl:FlOk env fl) (q:∀ h',ExcSt c R H e cl .none h'→Q () { s with heap:=h' }):wpAny M A (leaving env (.ref e)) Q E s :=
 let ⟨H₁,X,r⟩:=X;Zo1 hfr hs X hfl fun h' X'=>q h' ⟨H₁,X',r⟩
theorem ExcSt.st {e:Addr} {cl:String} {fl:Value} (X:ExcSt c R H e cl fl h):St c R H h:=let ⟨H₁,X,r⟩:=X;⟨H₁,X.st,r⟩
theorem ExcSt.he {e:Addr} {cl:String} {fl:Value} (X:ExcSt c R H e cl fl h):H e=none:=let ⟨_,X,r⟩:=X;r.none X.he
theorem ExcSt.kn {e:Addr} {cl:String} {fl:Value} (X:ExcSt c R H e cl fl h):(c.P.excs.lookup cl).isSome=true:=let ⟨_,X,_⟩:=X;X.kn
end
end Mine
end
section
namespace Mine
noncomputable def Zco (R:RR) (a:Addr):RR:=fun b=>if b=a then none else R b
theorem Zev {R:RR} {a:Addr}:∀ b r,Zco R a b=some r→R b=some r:=fun b r e=>by
 unfold Zco at e;split at e
 ·contradiction
 ·exact e
theorem Za4 {R:RR} {a b:Addr} (h:b≠a):Zco R a b=R b:=by simp [Zco,h]
theorem Zce {R:RR} {a:Addr}:Zco R a a=none:=by simp [Zco]
def ItObj (H:Zaa) (v:AV) (k:Nat) (o:Obj):Prop :=
 match v with
 | .ref a=>(match H a with
  | some (.list _)=>o.cls = .type "list_iterator"∧o.data = .fields #[.ref a,.int k 0]
  | some (.tuple _)=>o.cls = .type "tuple_iterator"∧o.data = .fields #[.ref a,.int k 0]
  | some (.range lo hi)=>o = { cls:=.type "range_iterator",dict:=none,data:=.fields #[rawInt (lo+k),rawInt (((hi - lo).toNat:Int) - k),rawInt 1],slots:=#[] }
  | some (.dict ep es)=>o.cls = .type "dict_keyiterator"∧o.data = .fields #[.ref a,.int k 0,.int es.length 0,.int ep 0]
  | _=>False)
 | .str s=>∃ t,(o.cls = .type "str_ascii_iterator"∨o.cls = .type "str_iterator")∧o.data = .fields #[.str s t,.int k 0]
 | _=>False
theorem ItObj.same {H H':Zaa} {v:AV} {k:Nat} {o:Obj} (h:ItObj H v k o) (e:Zdu H H' v):ItObj H' v k o:=by
 cases v with
 | ref a=>dsimp only [Zdu] at e;simp only [ItObj] at h ⊢;refine rl e ?_;exact h
 | str s=>exact h
 | _=>exact h
theorem Zpw {a b:Int}:Builtin.Range.rangeSize a b 1=((b - a).toNat:Int):=by
 unfold Builtin.Range.rangeSize;simp only [Int.ediv_one,show (1:Int) > 0 from by decide,if_true];split<;>omega
theorem Zs6 {a b:Int} (h:RgOk a b):Builtin.Range.small a b 1=true:=by
 unfold Builtin.Range.small Builtin.Range.rangeFitsLong;refine rl Zpw ?_;obtain ⟨h1,h2,h3,h4⟩:=h;simp only [show (1:Int) > 0 from by decide,if_true,Bool.and_eq_true,Bool.or_eq_true,decide_eq_true_eq,beq_iff_eq];refine ⟨⟨⟨⟨⟨?_,?_⟩,⟨?_,?_⟩⟩,⟨?_,?_⟩⟩,⟨?_,?_⟩⟩,.inr ⟨?_,?_⟩⟩<;>omega
section
variable {c:Cx} {R:RR} {H:Zaa} {A:Around} {E:Value→Shared→Prop} {s:Shared}
theorem Zge {o:Obj} {Q:Value→Shared→Prop} (hnf:o.isFreed=false) (S:St c R H s.heap) (q:∀ s' a,R a=none→H a=none→St c (rup R a (.obj o)) H s'.heap→Sm s s'→Q (.ref a) s'):Q (.ref s.heap.objs.size) { s with heap:=s.heap.push o }:=by
 obtain ⟨h1,h2,h3⟩:=S.newRes (x:=s.heap.objs.size) (r:=.obj o) (h':=s.heap.push o) (le_refl _) (fun _ _ z=>Heap.get?_push_of_some _ z) (by refine rl (Heap.size_push ..) ?_;omega) (Heap.get?_push_size _ hnf);exact q _ _ h1 h2 h3 ⟨_,_,rfl⟩
set_option tactic.hygienic true in
theorem Zq6 {mg mb:Str→Option Value} {v:AV} {u:Value} {xs:List AV} {Q:Value→Shared→Prop} (C:c.Ok mg mb) (hv:VR v u) (S:St c R H s.heap) (hx:Zal H v=some xs)
  (q:∀ s' a o,R a=none→H a=none→ItObj H v 0 o→St c (rup R a (.obj o)) H s'.heap→Sm s s'→Q (.ref a) s'):wpAny (model c.prog c.w) A (pyIter u) Q E s:=by
 cases hv with
 | ref a =>
  simp only [Zal] at hx;split at hx
  ·rename_i ys e;obtain ⟨vs,n,k1,k2,k3⟩:=Zbe (g:=⟨c,0,true⟩) S e;exact wpAny_pyIter_list k3 (Zge rfl S fun s' b h1 h2 h3 h4=>q s' b _ h1 h2 (by simp [ItObj,e]) h3 h4)
  ·rename_i ys e;obtain ⟨vs,n,k1,k2,k3⟩:=Zcz (g:=⟨c,0,true⟩) S e;exact wpAny_pyIter_tuple ⟨_,k1,rfl,_,rfl⟩ (Zge rfl S fun s' b h1 h2 h3 h4=>q s' b _ h1 h2 (by simp [ItObj,e]) h3 h4)
  ·rename_i lo hi e;obtain ⟨⟨D,rg,t,u,w,hr⟩,_⟩:=S.orep e;exact wpAny_pyIter_range hr (Zs6 rg) (Zge rfl S fun s' b h1 h2 h3 h4=>q s' b _ h1 h2 (by simp [ItObj,e,Zpw]) h3 h4)
  ·rename_i ep es e;obtain ⟨kvs,hd,hr⟩:=Zbu (g:=⟨c,0,true⟩) S e;have hl:=hr.length;refine wpAny_pyIter_dict (Zi5 (g:=⟨c,0,true⟩) C S e) hd (Zge rfl S fun s' b h1 h2 h3 h4=>q s' b _ h1 h2 ?_ h3 h4);simp [ItObj,e,hl]
  ·cases hx
 | str x t =>
  cases ha:x.cps.all (· < 128)
  ·exact wpAny_pyIter_wide ha (Zge rfl S fun s' b h1 h2 h3 h4=>q s' b _ h1 h2 ⟨t,.inr rfl,rfl⟩ h3 h4)
  ·exact wpAny_pyIter_ascii ha (Zge rfl S fun s' b h1 h2 h3 h4=>q s' b _ h1 h2 ⟨t,.inl rfl,rfl⟩ h3 h4)
 | none=>cases hx
 | bool b=>cases hx
 | int i t=>contradiction
theorem Zv1 {x:Str} {i ch:Nat} (h:PyData.strOk x=true) (e:x.cps[i]? = some ch):PyData.strOk ⟨#[ch]⟩=true :=
 Zjj (l:=[ch]) (by intro c hc;simp at hc;subst hc;exact Zhh h (Array.mem_of_getElem? e))
theorem DRs.get {es:List (Str×AV)} {kvs:List (Str×Value)} (h:DRs es kvs):∀ {k:Nat} {n:Str} {a:AV},es[k]? = some (n,a)→PyData.strOk n=true∧∃ v,kvs[k]? = some (n,v):=by
 induction h with
 | nil=>intro k n a e;simp at e
 | cons h1 h2 _ ih =>
  intro k n a e;cases k with
  | zero=>simp at e;obtain ⟨rfl,rfl⟩:=e;exact ⟨h1,_,rfl⟩
  | succ k=>simp at e ⊢;exact ih e
set_option tactic.hygienic true in
theorem Zmd {v:AV} {xs:List AV} {x:AV} {k:Nat} {a:Addr} {o:Obj} {Q:Option Value→Shared→Prop} (hx:Zal H v=some xs) (hk:xs[k]? = some x) (hi:ItObj H v k o) (hr:R a=some (.obj o)) (S:St c R H s.heap)
  (hsv:∀ y,v = .str y→PyData.strOk y=true)
  (q:∀ s' u o',VR x u→ItObj H v (k+1) o'→St c (rup R a (.obj o')) H s'.heap→Sm s s'→Q (some u) s'):wpAny (model c.prog c.w) A (pyNext (.ref a)) Q E s:=by
 have ho:s.heap.get? a=some o:=(S.res _ _ hr).2;cases v with
 | ref p =>
  simp only [Zal] at hx;split at hx
  ·rename_i ys e;obtain rfl:=osi hx;obtain ⟨vs,n,k1,k2,k3⟩:=Zbe (g:=⟨c,0,true⟩) S e;obtain ⟨w,hw,hvr⟩:=k2.get hk;simp only [ItObj,e] at hi;refine wpAny_pyNext_list_item ⟨o,ho,hi.1,hi.2⟩ k3 (by simpa using hw) fun h' ⟨o',p1,p2,p3⟩ hs=>?_;exact q _ w o' hvr (by simp only [ItObj,e];exact ⟨p2,p3⟩) (S.setRes hr hs p1) ⟨_,_,rfl⟩
  ·rename_i ys e;obtain rfl:=osi hx;obtain ⟨vs,n,k1,k2,k3⟩:=Zcz (g:=⟨c,0,true⟩) S e;obtain ⟨w,hw,hvr⟩:=k2.get hk;simp only [ItObj,e] at hi;refine wpAny_pyNext_tuple_item (items:=vs.toArray) ⟨o,ho,hi.1,hi.2⟩ ⟨_,k1,rfl,_,rfl⟩ (by simpa using hw) fun h' ⟨o',p1,p2,p3⟩ hs=>?_;exact q _ w o' hvr (by simp only [ItObj,e];exact ⟨p2,p3⟩) (S.setRes hr hs p1) ⟨_,_,rfl⟩
  ·rename_i lo hi' e;obtain rfl:=osi hx;simp only [ItObj,e] at hi;subst hi;have hlt:k<(hi' - lo).toNat:=by
    have:=(gsi hk).1;simpa using this
   have hxe:x = .int (lo+k):=by
    rw [getElem?_map,List.getElem?_range hlt] at hk;simpa using hk.symm
   subst hxe;refine wpAny_pyNext_range_item (x:=lo+k) (left:=((hi' - lo).toNat:Int) - k) (step:=1) ho (by omega) fun h' p1 hs=>?_;refine q _ _ _ (.int _ _) ?_ (S.setRes (r':=.obj _) hr hs p1) ⟨_,_,rfl⟩;simp only [ItObj,e];have e1:lo+(k:Int)+1=lo+((k+1:Nat):Int):=by omega
   have e2:((hi' - lo).toNat:Int) - k - 1=((hi' - lo).toNat:Int) - ((k+1:Nat):Int):=by omega
   exact rl e1 (rl e2 rfl)
  ·rename_i ep es e;obtain rfl:=osi hx;obtain ⟨kvs,hd,hr'⟩:=Zbu (g:=⟨c,0,true⟩) S e;have hl:=hr'.length;simp only [ItObj,e] at hi;rw [getElem?_map,map_eq_some_iff] at hk;obtain ⟨⟨kk,av⟩,hk1,hk2⟩:=hk;obtain ⟨hso,vv,hkv⟩:=hr'.get hk1;subst hk2;refine wpAny_pyNext_dict_item (k:=kk) (v:=vv) ⟨o,ho,hi.1,by rw [hl];exact hi.2⟩ hd hkv fun key h' hkey ⟨o',p1,p2,p3⟩ hs=>?_;obtain ⟨t,rfl⟩:=Zhi hkey;exact q _ _ o' (.str _ _ hso) (by simp only [ItObj,e];exact ⟨p2,by rw [← hl];exact p3⟩) (S.setRes hr hs p1) ⟨_,_,rfl⟩
  ·cases hx
 | str y =>
  obtain rfl:=osi hx;rw [getElem?_map,map_eq_some_iff] at hk;obtain ⟨ch,hk1,rfl⟩:=hk;have hch:y.cps[k]? = some ch:=by rw [← Array.getElem?_toList];exact hk1
  obtain ⟨t,hc,hd⟩:=hi;have hok:=Zv1 (hsv y rfl) hch;rcases hc with hc | hc
  ·refine wpAny_pyNext_ascii_item ⟨o,ho,hc,hd⟩ hch fun h' ⟨o',p1,p2,p3⟩ hs=>?_;exact q _ _ o' (.str _ _ hok) ⟨t,.inl p2,p3⟩ (S.setRes hr hs p1) ⟨_,_,rfl⟩
  ·refine wpAny_pyNext_wide_item ⟨o,ho,hc,hd⟩ hch fun h' ⟨o',p1,p2,p3⟩ hs=>?_;exact q _ _ o' (.str _ _ hok) ⟨t,.inr p2,p3⟩ (S.setRes hr hs p1) ⟨_,_,rfl⟩
 | none=>cases hx
 | bool b=>cases hx
 | int i=>contradiction
theorem St1.dropAny {h h':Heap} {a:Addr} {r₀:Res} (S:St1 c R H h) (hr:R a=some r₀) (k:Heap.ExtBut a h h') (hsz:c.base.objs.size≤h'.objs.size):St1 c (Zco R a) H h':=by
 obtain ⟨s1,s2,s3,D,s4⟩:=S;have nn:∀ b,R b=none→Zco R a b=none:=fun b e=>by
  cases q:Zco R a b with
  | none=>rfl
  | some r=>rw [Zev b r q] at e;contradiction
 refine ⟨fun b o' e=>k b o' (fun z=>?_) (s1 b o' e),hsz,fun b r e=>⟨(s3 b r (Zev b r e)).1,(s3 b r (Zev b r e)).2.agree fun ob z=>k b ob (fun w=>?_) z⟩,D,⟨fun b ao e=>?_,fun b ao e=>⟨(s4.above b ao e).1,nn _ (s4.above b ao e).2⟩,fun b cl es e=>?_,s4.inj⟩⟩
 ·have:=leN (s3 a _ hr).1;have:=lts e;rw [z] at this;omega
 ·rw [w,Zce] at e;contradiction
 ·refine (s4.rep b ao e).agree (fun ob z=>k b ob (fun w=>?_) z) fun cl es eo=>⟨rfl,fun ob z=>k _ ob (fun w=>?_) z⟩
  ·have:=(s4.above b ao e).2;rw [w,hr] at this;contradiction
  ·subst eo;have:=(s4.dict b cl es e).2.1;rw [w,hr] at this;contradiction
 ·obtain ⟨y1,y2,y3⟩:=s4.dict b cl es e;exact ⟨y1,nn _ y2,y3⟩
theorem St.dropAny {h h':Heap} {a:Addr} {r₀:Res} (S:St c R H h) (hr:R a=some r₀) (k:Heap.ExtBut a h h') (hsz:c.base.objs.size≤h'.objs.size):St c (Zco R a) H h':=let ⟨H₁,s,r⟩:=S;⟨H₁,s.dropAny hr k hsz,r⟩
set_option tactic.hygienic true in
theorem Zq7 {v:AV} {xs:List AV} {k:Nat} {a L:Addr} {m:Str→Option Value} {o:Obj} {Q:Option Value→Shared→Prop} (hh:A.handled=none) (hx:Zal H v=some xs) (hk:xs[k]? = none) (hi:ItObj H v k o) (hr:R a=some (.obj o)) (hL:R L=some (.ns m)) (S:St c R H s.heap)
  (q:∀ s',St c (Zco R a) H s'.heap→Sm s s'→Q none s'):wpAny (model c.prog c.w) A (pyNext (.ref a)) Q E s:=by
 have ho:s.heap.get? a=some o:=(S.res _ _ hr).2;have fin:∀ h',Heap.ExtBut a s.heap h'→Q none { s with heap:=h' }:=fun h' k=>by
  refine q _ (S.dropAny hr k ?_) ⟨_,_,rfl⟩;obtain ⟨oL,es,ep,w,_⟩:=(S.res _ _ hL).2;have h1:=leN (S.res _ _ hL).1;have h2:=lts (k L oL (fun z=>by rw [z,hr] at hL;cases hL) w);exact le_of_lt (lt_of_le_of_lt h1 h2)
 cases v with
 | ref p =>
  simp only [Zal] at hx;split at hx
  ·rename_i ys e;obtain rfl:=osi hx;obtain ⟨vs,n,k1,k2,k3⟩:=Zbe (g:=⟨c,0,true⟩) S e;simp only [ItObj,e] at hi;refine wpAny_pyNext_list_end hh ⟨o,ho,hi.1,hi.2⟩ k3 ?_ fin;have:=k2.length;simp at hk ⊢;omega
  ·rename_i ys e;obtain rfl:=osi hx;obtain ⟨vs,n,k1,k2,k3⟩:=Zcz (g:=⟨c,0,true⟩) S e;simp only [ItObj,e] at hi;refine wpAny_pyNext_tuple_end (items:=vs.toArray) hh ⟨o,ho,hi.1,hi.2⟩ ⟨_,k1,rfl,_,rfl⟩ ?_ fin;have:=k2.length;simp at hk ⊢;omega
  ·rename_i lo hi' e;obtain rfl:=osi hx;simp only [ItObj,e] at hi;subst hi;have hlt:(hi' - lo).toNat≤k:=by simpa using hk
   exact wpAny_pyNext_range_end (x:=lo+k) (left:=((hi' - lo).toNat:Int) - k) (step:=1) hh ho (by omega) fin
  ·rename_i ep es e;obtain rfl:=osi hx;obtain ⟨kvs,hd,hr'⟩:=Zbu (g:=⟨c,0,true⟩) S e;have hl:=hr'.length;simp only [ItObj,e] at hi;refine wpAny_pyNext_dict_end hh ⟨o,ho,hi.1,by refine rl hl ?_;exact hi.2⟩ hd ?_ fin;simp at hk ⊢;omega
  ·cases hx
 | str y =>
  obtain rfl:=osi hx;have hch:y.cps[k]? = none:=by refine rl (Eq.symm (Array.getElem?_toList)) ?_;simpa using hk
  obtain ⟨t,hc,hd⟩:=hi;rcases hc with hc | hc
  ·exact wpAny_pyNext_ascii_end hh ⟨o,ho,hc,hd⟩ hch fin
  ·exact wpAny_pyNext_wide_end hh ⟨o,ho,hc,hd⟩ hch fin
 | none=>cases hx
 | bool b=>cases hx
 | int i=>contradiction
end
end Mine
end
section
namespace Mine
def RStep (env:Env) (R R':RR):Prop:=∀ b,R' b=R b∨(b=env.locals∧∃ m m',R b=some (.ns m)∧R' b=some (.ns m'))∨((∃ n,env.cells.lookup n=some b)∧∃ x x',R b=some (.cell x)∧R' b=some (.cell x'))
theorem RStep.refl {env:Env} {R:RR}:RStep env R R:=fun _=>.inl rfl
theorem RStep.trans {env:Env} {R R' R'':RR} (x:RStep env R R') (y:RStep env R' R''):RStep env R R'':=fun b=>by
 rcases x b with h | ⟨h1,m,m',h2,h3⟩ | ⟨h1,m,m',h2,h3⟩
 ·rcases y b with k | ⟨k1,m,m',k2,k3⟩ | ⟨k1,m,m',k2,k3⟩
  ·exact .inl (k.trans h)
  ·exact .inr (.inl ⟨k1,m,m',by refine rl h.symm ?_;exact k2,k3⟩)
  ·exact .inr (.inr ⟨k1,m,m',by refine rl h.symm ?_;exact k2,k3⟩)
 ·rcases y b with k | ⟨k1,n,n',k2,k3⟩ | ⟨k1,n,n',k2,k3⟩
  ·exact .inr (.inl ⟨h1,m,m',h2,by refine rl k ?_;exact h3⟩)
  ·exact .inr (.inl ⟨h1,m,n',h2,k3⟩)
  ·rw [h3] at k2;cases k2
 ·rcases y b with k | ⟨k1,n,n',k2,k3⟩ | ⟨k1,n,n',k2,k3⟩
  ·exact .inr (.inr ⟨h1,m,m',h2,by refine rl k ?_;exact h3⟩)
  ·rw [h3] at k2;cases k2
  ·exact .inr (.inr ⟨h1,m,n',h2,k3⟩)
theorem RStep.ns {env:Env} {R R':RR} (x:RStep env R R') {a:Addr} {m} (h:R a=some (.ns m)):∃ m',R' a=some (.ns m'):=by
 rcases x a with k | ⟨_,_,m',_,k⟩ | ⟨_,_,_,k,_⟩
 ·exact ⟨m,k.trans h⟩
 ·exact ⟨m',k⟩
 ·rw [h] at k;cases k
theorem RStep.obj {env:Env} {R R':RR} (x:RStep env R R') {a:Addr} {o} (h:R a=some (.obj o)):R' a=some (.obj o):=by
 rcases x a with k | ⟨_,_,m',k,_⟩ | ⟨_,_,_,k,_⟩
 ·exact k.trans h
 ·rw [h] at k;cases k
 ·rw [h] at k;cases k
theorem RStep.none {env:Env} {R R':RR} (x:RStep env R R') {a:Addr} (h:R a=Option.none):R' a=Option.none:=by
 rcases x a with k | ⟨_,_,m',k,_⟩ | ⟨_,_,_,k,_⟩
 ·exact k.trans h
 ·rw [h] at k;contradiction
 ·rw [h] at k;contradiction
theorem RStep.stk {env:Env} {R R':RR} (x:RStep env R R') {l:List Env} (h:Stk R l):Stk R' l:=fun e he =>
 let F:=h e he
 ⟨F.kind,F.frame,F.gen,F.co,F.blt,F.glob,let ⟨_,hm⟩:=F.ns;x.ns hm⟩
theorem Ev.step {g:Gx} {A:Around} {R R':RR} {env e:Env} {l:List Env} (x:RStep env R R') (h:Ev g A R e l):Ev g A R' e l:=⟨h.aok,x.stk h.stk⟩
theorem Frm.congr {R R':RR} {env:Env} {sc:Scope} {nm:List Str} {V:VV} (fr:Frm R env sc nm V) (h:∀ b,(∃ m,R b=some (.ns m))∨(∃ x,R b=some (.cell x))→R' b=R b):Frm R' env sc nm V:=by
 obtain ⟨k1,k2,k3,k4,k5,k6,k7,kc,kl,k8,⟨m,n1,n2⟩,k9⟩:=fr;refine ⟨k1,k2,k3,k4,k5,k6,k7,kc,kl,k8,⟨m,(h _ (.inl ⟨m,n1⟩)).trans n1,n2⟩,fun i n hn hk=>?_⟩;obtain ⟨a,x,v,c1,c2,c3⟩:=k9 i n hn hk;exact ⟨a,x,v,c1,(h _ (.inr ⟨x,c2⟩)).trans c2,c3⟩
section
variable {c:Cx} {R:RR} {H:Zaa} {V:VV} {env:Env} {sc:Scope} {nm:List Str}
theorem Frm.local' (fr:Frm R env sc nm V) (nd:nm.Nodup) {i:Nat} {id:Str} {x:Option AV} {w:Option Value} {m:Str→Option Value} (hi:nm[i]? = some id) (hl:env.kindOf id=some .local) (hm:R env.locals=some (.ns m)) (hv:OVW x w) :
  Frm (rup R env.locals (.ns fun y=>if y=id then w else m y)) env sc nm (V.set i x):=by
 obtain ⟨k1,k2,k3,k4,k5,k6,k7,kc,kl,k8,⟨m',n1,n2⟩,k9⟩:=fr;rw [hm] at n1;cases n1;have hnd:∀ {j:Nat} {n:Str},nm[j]? = some n→(n=id↔j=i):=fun {j n} hj=>by
  constructor
  ·rintro rfl;have h1:=gsi hj;have h2:=gsi hi;exact (List.getElem_inj nd).mp (h1.2.trans h2.2.symm)
  ·rintro rfl;rw [hi] at hj;obtain rfl:=osi hj;rfl
 refine ⟨k1,k2,k3,k4,k5,k6,k7,kc,by refine rl length_set ?_;exact kl,k8,⟨_,Zaq,fun j n hj hk=>?_⟩,fun j n hj hk=>?_⟩
 ·obtain ⟨v,v1,v2⟩:=n2 j n hj hk;by_cases q:n=id
  ·have:=(hnd hj).mp q;subst q this;have hlt:=(gsi v1).1;exact ⟨x,by simp [hlt],by simpa using hv⟩
  ·have hne:j≠i:=fun z=>q ((hnd hj).mpr z);exact ⟨v,by refine rl (getElem?_set_ne (Ne.symm hne)) ?_;exact v1,by simp only [q,if_false];exact v2⟩
 ·obtain ⟨a,y,v,c1,c2,c3,c4⟩:=k9 j n hj hk;have hna:a≠env.locals:=fun z=>by rw [z,hm] at c2;cases c2
  have hne:j≠i:=fun z=>by
   have:=(hnd hj).mpr z;subst this;rw [hl] at hk;rcases hk with hk | hk<;>contradiction
  exact ⟨a,y,v,c1,by refine rl (Zah hna) ?_;exact c2,by refine rl (getElem?_set_ne (Ne.symm hne)) ?_;exact c3,c4⟩
theorem Frm.cell' (fr:Frm R env sc nm V) (nd:nm.Nodup) {i:Nat} {id:Str} {a:Addr} {x:Option AV} {w y:Option Value} (hi:nm[i]? = some id) (hl:env.kindOf id=some .cell) (ha:env.cells.lookup id=some a) (hr:R a=some (.cell y)) (hv:OVW x w) :
  Frm (rup R a (.cell w)) env sc nm (V.set i x):=by
 obtain ⟨k1,k2,k3,k4,k5,k6,k7,kc,kl,k8,⟨m',n1,n2⟩,k9⟩:=fr;have hnd:∀ {j:Nat} {n:Str},nm[j]? = some n→(n=id↔j=i):=fun {j n} hj=>by
  constructor
  ·rintro rfl;have h1:=gsi hj;have h2:=gsi hi;exact (List.getElem_inj nd).mp (h1.2.trans h2.2.symm)
  ·rintro rfl;rw [hi] at hj;obtain rfl:=osi hj;rfl
 have hna:env.locals≠a:=fun z=>by rw [z,hr] at n1;cases n1
 refine ⟨k1,k2,k3,k4,k5,k6,k7,kc,by refine rl length_set ?_;exact kl,k8,⟨m',by refine rl (Zah hna) ?_;exact n1,fun j n hj hk=>?_⟩,fun j n hj hk=>?_⟩
 ·obtain ⟨v,v1,v2⟩:=n2 j n hj hk;have hne:j≠i:=fun z=>by
   have:=(hnd hj).mpr z;subst this;rw [hl] at hk;contradiction
  exact ⟨v,by refine rl (getElem?_set_ne (Ne.symm hne)) ?_;exact v1,v2⟩
 ·obtain ⟨b,z,v,c1,c2,c3,c4⟩:=k9 j n hj hk;by_cases q:n=id
  ·have:=(hnd hj).mp q;subst q this;rw [ha] at c1;obtain rfl:=osi c1;have hlt:=(gsi c3).1;exact ⟨a,w,x,ha,Zaq,by simp [hlt],hv⟩
  ·have hne:j≠i:=fun z=>q ((hnd hj).mpr z);have hab:b≠a:=fun z=>q (k8 n id a (by refine rl z.symm ?_;exact c1) ha);exact ⟨b,z,v,c1,by refine rl (Zah hab) ?_;exact c2,by refine rl (getElem?_set_ne (Ne.symm hne)) ?_;exact c3,c4⟩
theorem Zhk {M:Model} {A:Around} {E:Value→Shared→Prop} {s:Shared} {i:Nat} {id:Str} {x:AV} {u:Value} {Q:Unit→Shared→Prop} (fr:Frm R env sc nm V) (nd:nm.Nodup) (hi:nm[i]? = some id) (hk:Zee sc id=true) (hv:VR x u)
  (S:St c R H s.heap) (q:∀ s' R',RStep env R R'→Frm R' env sc nm (V.set i (some x))→St c R' H s'.heap→Sm s s'→Q () s'):wpAny M A (storeName env id u) Q E s:=by
 obtain ⟨m,hm,_⟩:=fr.ns;rcases fr.lok id hk with hl | hl
 ·refine wpAny_storeName_local hl (S.res _ _ hm).2 (fun h' hn hs=>?_) (by refine rl fr.kind ?_;rfl);refine q _ _ (fun b=>?_) (fr.local' nd hi hl hm (.some hv)) (S.setRes (r':=.ns _) hm hs hn) ⟨_,_,rfl⟩;by_cases z:b=env.locals
  ·subst z;exact .inr (.inl ⟨rfl,_,_,hm,Zaq⟩)
  ·exact .inl (Zah z)
 ·obtain ⟨a,y,v,c1,c2,c3,c4⟩:=fr.cell i id hi (.inl hl);refine wpAny_storeName_cell fr.kind hl c1 (S.res _ _ c2).2 fun h' hn hs=>?_;refine q _ _ (fun b=>?_) (fr.cell' nd hi hl c1 c2 (.some hv)) (S.setRes (r':=.cell _) c2 hs hn) ⟨_,_,rfl⟩;by_cases z:b=a
  ·subst z;exact .inr (.inr ⟨⟨_,c1⟩,_,_,c2,Zaq⟩)
  ·exact .inl (Zah z)
theorem ExcSt1.weaken {R':RR} {e:Addr} {cl:String} {fl:Value} {h:Heap} (X:ExcSt1 c R' H e cl fl h) (k:∀ b r,R b=some r→R' b=some r):ExcSt1 c R H e cl fl h:=by
 obtain ⟨st,re,he,be,ob,kn⟩:=X;have nn:∀ a,R' a=none→R a=none:=fun a e=>by
  cases q:R a with
  | none=>rfl
  | some r=>rw [k a r q] at e;contradiction
 refine ⟨st.weaken k,nn _ re,he,be,?_,kn⟩;cases ob with
 | fresh h1=>exact .fresh h1
 | traced h1 h2 h3 h4 h5 h6 h7 h8 h9 h10 h11 h12 h13=>exact .traced h1 h2 h3 h4 h5 h6 (nn _ h7) h8 h9 h10 h11 h12 h13
theorem ExcAt.obj {e:Addr} {cls fl:Value} {h:Heap} (X:ExcAt c R H h e cls fl):∃ o vs,h.get? e=some o∧o.cls=cls∧o.data = .fields vs:=by
 cases X with
 | fresh h1=>exact ⟨_,_,h1,rfl,rfl⟩
 | traced h1 h2 h3=>exact ⟨_,_,h1,h2,h3⟩
theorem ExcSt.weaken {R':RR} {e:Addr} {cl:String} {fl:Value} {h:Heap} (X:ExcSt c R' H e cl fl h) (k:∀ b r,R b=some r→R' b=some r):ExcSt c R H e cl fl h:=let ⟨H₁,X,r⟩:=X;⟨H₁,X.weaken k,r⟩
theorem ExcSt.obj {e:Addr} {cl:String} {fl:Value} {h:Heap} (X:ExcSt c R H e cl fl h):∃ o vs,h.get? e=some o∧o.cls = .ref (c.ca cl)∧o.data = .fields vs:=let ⟨_,X,_⟩:=X;X.ob.obj
end
inductive TFn (c:Cx) (env:Env) (sc:Scope) (nm:List Str) (R:RR) (s₀:Shared) (QN:VV→Zaa→Prop) (s':Shared):Prop
 | mk (R':RR) (V':VV) (H':Zaa) (r:RStep env R R') (f:Frm R' env sc nm V') (S:St c R' H' s'.heap) (m:Sm s₀ s') (q:QN V' H'):TFn c env sc nm R s₀ QN s'
inductive TFr (c:Cx) (env:Env) (R:RR) (s₀:Shared) (QR:AV→Zaa→Prop) (v:Value) (s':Shared):Prop
 | mk (R':RR) (av:AV) (H':Zaa) (r:RStep env R R') (hv:VR av v) (S:St c R' H' s'.heap) (m:Sm s₀ s') (q:QR av H'):TFr c env R s₀ QR v s'
inductive TXi (c:Cx) (env:Env) (sc:Scope) (nm:List Str) (R:RR) (s₀:Shared) (E:String→VV→Zaa→Prop) (e:Value) (s':Shared):Prop
 | mk (a:Addr) (cl:String) (R':RR) (V':VV) (H':Zaa) (fl:Value) (h:e = .ref a) (r:RStep env R R') (f:Frm R' env sc nm V') (k:FlOk env fl) (X:ExcSt c R' H' a cl fl s'.heap) (m:Sm s₀ s') (q:E cl V' H'):TXi c env sc nm R s₀ E e s'
def TF (g:Gx) (env:Env) (sc:Scope) (nm:List Str) (R:RR) (s₀:Shared) (QN:VV→Zaa→Prop) (QR:AV→Zaa→Prop) (f:Flow) (s':Shared):Prop :=
 match f with
 | .next=>TFn g.c env sc nm R s₀ QN s'
 | .ret v=>TFr g.c env R s₀ QR v s'
 | _=>False
def TX (g:Gx) (env:Env) (sc:Scope) (nm:List Str) (R:RR) (s₀:Shared) (E:String→VV→Zaa→Prop) (e:Value) (s':Shared):Prop :=
 TXi g.c env sc nm R s₀ E e s'
def SOk (g:Gx) (sc:Scope) (nm:List Str) (w:Gx→(VV→Zaa→Prop)→(AV→Zaa→Prop)→(String→VV→Zaa→Prop)→VV→Zaa→Prop) (t:Env→Sem Flow):Prop :=
 ∀ (md:Bool) (A:Around) (env:Env) (l₀:List Env) (R:RR) (V:VV) (s₀ s:Shared) (H:Zaa) (QN:VV→Zaa→Prop) (QR:AV→Zaa→Prop) (E:String→VV→Zaa→Prop),
  Ev { g with md:=md } A R env l₀→Frm R env sc nm V→St g.c R H s.heap→Sm s₀ s→w { g with md:=md } QN QR E V H →
  wpAny (model g.c.prog g.c.w) A (t env) (TF g env sc nm R s₀ QN QR) (TX g env sc nm R s₀ E) s
end Mine
end
section
namespace Mine
section
variable {c:Cx} {R:RR} {H:Zaa} {A:Around} {E:Value→Shared→Prop} {s:Shared}
theorem Zlw {R:RR} {a:Addr} {r r':Res}:rup (rup R a r) a r'=rup R a r':=by
 funext b
 by_cases q:b=a
 ·subst q;exact rl Zaq (rl Zaq rfl)
 ·exact rl (Zah q) (rl (Zah q) (rl (Zah q) rfl))
theorem Zpx {R:RR} {a:Addr} {r:Res} (h:R a=none):Zco (rup R a r) a=R:=by
 funext b
 by_cases q:b=a
 ·subst q;exact rl Zce (rl h rfl)
 ·exact rl (Za4 q) (rl (Zah q) rfl)
theorem Zrp {p a:Addr} {xs:List AV} (hx:Zal H (.ref p)=some xs):∀ (n k:Nat) (s:Shared) (o:Obj) (Q:List Value→Shared→Prop),k+n≤xs.length→ItObj H (.ref p) k o→St c (rup R a (.obj o)) H s.heap →
  (∀ s' o' vs,ItObj H (.ref p) (k+n) o'→VRs ((xs.drop k).take n) vs→St c (rup R a (.obj o')) H s'.heap→Sm s s'→Q vs s')→wpAny (model c.prog c.w) A (draw (.ref a) n) Q E s
 | 0,k,s,o,Q,_,hi,S,q=>wpAny_pure (q s o [] hi (by refine rl take_zero ?_;exact .nil) S ⟨_,_,rfl⟩)
 | n+1,k,s,o,Q,hk,hi,S,q=>by
  have hlt:k<xs.length:=by omega
  show wpAny _ _ (pyNext (.ref a) >>= _) Q E s;refine wpAny_bind (Zmd (x:=xs[k]) hx (by simp [hlt]) hi Zaq S (fun y z=>by contradiction) fun s₁ u o₁ hu ho1 S₁ m₁=>?_);rw [Zlw] at S₁;refine wpAny_bind (wpAny_holding (Zrp hx n (k+1) s₁ o₁ _ (by omega) ho1 S₁ fun s₂ o₂ vs ho2 hv S₂ m₂=>wpAny_pure ?_));refine q s₂ o₂ (u::vs) (by refine rl (show k+(n+1)=k+1+n by omega) ?_;exact ho2) ?_ S₂ (m₁.trans m₂);refine rl (List.drop_eq_getElem_cons hlt) (rl List.take_succ_cons ?_);exact .cons hu hv
theorem Zj7 {mg mb:Str→Option Value} {p L:Addr} {mL:Str→Option Value} {xs:List AV} {Q:List Value→Shared→Prop} (C:c.Ok mg mb) (hh:A.handled=none) (hL:R L=some (.ns mL)) (S:St c R H s.heap) (hx:H p=some (.tuple xs)∨H p=some (.list xs))
  (q:∀ s' vs,VRs xs vs→St c R H s'.heap→Sm s s'→Q vs s'):wpAny (model c.prog c.w) A (unpackItems (.ref p) xs.length none) Q E s:=by
 have hit:Zal H (.ref p)=some xs:=by rcases hx with e | e<;>simp [Zal,e]
 unfold unpackItems;refine wpAny_bind ?_;have hno:wpAny (model c.prog c.w) A (notIterableAtAll (.ref p)) (fun b s'=>b=false∧s'=s) E s:=by
  unfold notIterableAtAll;rcases hx with e | e
  ·obtain ⟨vs,n,k1,k2,k3⟩:=Zcz (g:=⟨c,0,true⟩) S e;refine wpAny_bind (wpAny_specialOf ⟨_,k1,rfl⟩ PySem.F.slot_tuple_iter.lookup (wpAny_pure ⟨rfl,rfl⟩))
  ·obtain ⟨vs,n,k1,k2,k3⟩:=Zbe (g:=⟨c,0,true⟩) S e;refine wpAny_bind (wpAny_specialOf ⟨_,k1,rfl⟩ PySem.slot_list_iter.lookup (wpAny_pure ⟨rfl,rfl⟩))
 refine wpAny_mono hno (fun b s' z=>?_) fun _ _ z=>z;obtain ⟨rfl,rfl⟩:=z;dsimp only [Bool.false_eq_true,if_false];refine wpAny_bind (wpAny_holding (Zq6 C (.ref p) S hit fun s₁ a o ha hHa ho S₁ m₁=>?_));refine wpAny_bind (wpAny_holding (Zrp hit xs.length 0 s₁ o _ (by omega) ho S₁ fun s₂ o₂ vs ho2 hv S₂ m₂=>?_));rw [drop_zero,take_length] at hv;refine rl (if_neg (by rw [← hv.length];exact lt_irrefl _)) ?_;have hLa:L≠a:=fun z=>by rw [z,ha] at hL;contradiction
 refine wpAny_bind (wpAny_holding (Zq7 hh hit (by simp) ho2 Zaq (by refine rl (Zah hLa) ?_;exact hL) S₂ fun s₃ S₃ m₃=>?_));rw [Zpx ha] at S₃;dsimp only [Option.isSome_none,Bool.false_eq_true,if_false];exact wpAny_pure (q s₃ vs hv S₃ ((m₁.trans m₂).trans m₃))
def TgK (e:Expr):Prop:=(∃ id p,e = .Name id p)∨∃ es k p,e = .Tuple es k p
theorem Zm9 {v:AV} {k:Nat} {a:Addr} {o:Obj} {tg:Expr} {u:Value} {Q:Unit→Shared→Prop} (tk:TgK tg) (hi:ItObj H v k o) (ho:s.heap.get? a=some o) (q:Q () s):wpAny (model c.prog c.w) A (letOwnedTupleGo tg (.ref a) u) Q E s:=by
 have key:∀ n vs,o.cls = .type n→o.data = .fields vs→["enumerate","zip","dict_itemiterator","dict_reverseitemiterator","odict_iterator","itertools.zip_longest","itertools.pairwise"].contains n=false →
   wpAny (model c.prog c.w) A (letOwnedTupleGo tg (.ref a) u) Q E s:=by
  intro n vs h1 h2 h3;rcases tk with ⟨id,p,rfl⟩ | ⟨es,kk,p,rfl⟩
  ·exact wpAny_pure q
  ·cases u with
   | ref T =>
    unfold letOwnedTupleGo;refine wpAny_bind (wpAny_load ho ?_);refine rl h1 (rl h2 ?_);show wpAny _ A (if (["enumerate","zip","dict_itemiterator","dict_reverseitemiterator","odict_iterator","itertools.zip_longest","itertools.pairwise"].contains n&&vs[0]?==some (rawInt T))=true then _ else _) Q E s;refine rl (h3 ..) (rl (Bool.false_and ..) (rl (if_neg Bool.false_ne_true ..) ?_));exact wpAny_pure q
   | _=>exact wpAny_pure q
 cases v with
 | ref p =>
  simp only [ItObj] at hi;split at hi
  ·exact key _ _ hi.1 hi.2 (by decide)
  ·exact key _ _ hi.1 hi.2 (by decide)
  ·subst hi;exact key _ _ rfl rfl (by decide)
  ·exact key _ _ hi.1 hi.2 (by decide)
  ·exact hi.elim
 | str y =>
  obtain ⟨t,hc,hd⟩:=hi;rcases hc with hc | hc
  ·exact key _ _ hc hd (by decide)
  ·exact key _ _ hc hd (by decide)
 | none=>exact hi.elim
 | bool b=>exact hi.elim
 | int i=>exact hi.elim
end
theorem Zi0 {e:Expr} {r:List Expr} {ts:List Str} (h:Zdd (e::r) ts=true):∃ id p ts',e = .Name id p∧ts=id::ts'∧Zdd r ts'=true :=
 Zdq (m:=fun ts=>∃ id p ts',e = .Name id p∧ts=id::ts'∧Zdd r ts'=true) h fun t q h =>
  Zcf (m:=fun e=>∃ id p ts',e = .Name id p∧t::q=id::ts'∧Zdd r ts'=true) (and2 h).1 fun id p h1=>⟨id,p,q,rfl,by exact rl (eq_of_beq h1) rfl,(and2 h).2⟩
theorem Zgy {env:Env} {es:List Expr}:∀ {ts:List Str},Zdd es ts=true→(assignEach es env).length=ts.length∧(assignEach es env).findIdx? (·.1)=none:=by
 induction es with
 | nil=>intro ts h;exact Zca (m:=fun ts=>_=ts.length∧_) h ⟨rfl,rfl⟩
 | cons e r ih =>
  intro ts h;obtain ⟨id,p,ts',rfl,rfl,h1⟩:=Zi0 h;obtain ⟨i1,i2⟩:=ih h1;exact ⟨congrArg Nat.succ i1,by show List.findIdx? _ ((false,_)::assignEach r env)=none;refine rl (List.findIdx?_cons) (rl i2 ?_);rfl⟩
end Mine
end
section
namespace Mine
noncomputable def Zdg (env:Env):List (Str×NameKind)→List (Str×Addr)→List (Str×Addr)
 | [],acc=>acc
 | (n,k)::r,acc=>if k==.free then Zdg env r ((n,(env.cells.lookup n).getD 0)::acc) else Zdg env r acc
theorem Zxh {env:Env} (f:Str×NameKind→List (Str×Addr)→Sem (ForInStep (List (Str×Addr)))) (hf:∀ n k cs,f (n,k) cs=if k==.free then (do let a ← cellOf env n;pure (.yield ((n,a)::cs))) else pure (.yield cs))
  (names:List (Str×NameKind)) (acc:List (Str×Addr)) (h:∀ p∈names,p.2 = .free→∃ a,env.cells.lookup p.1=some a):forIn names acc f=(pure (Zdg env names acc):Sem _):=by
 induction names generalizing acc with
 | nil=>refine rl forIn_nil ?_;rfl
 | cons nk r ih =>
  obtain ⟨n,k⟩:=nk;refine rl (forIn_cons ..) (rl (hf ..) ?_);unfold Zdg;cases hk:k==NameKind.free with
  | true =>
   obtain ⟨a,ha⟩:=h (n,k) (.head _) (by simpa using hk);simp only [if_true,cellOf,ha,getD_some];exact ih _ fun p hp=>h p (.tail _ hp)
  | false =>
   simp only [Bool.false_eq_true,if_false];exact ih _ fun p hp=>h p (.tail _ hp)
theorem Zj2 {env:Env} {sc:Scope} (h:∀ p∈sc.names,p.2 = .free→∃ a,env.cells.lookup p.1=some a):closureFor sc env=pure (Zdg env sc.names []):=by
 unfold closureFor;dsimp only;refine rl (Zxh (env:=env) _ (fun n k cs=>by cases hk:k==NameKind.free<;>simp only [hk]) sc.names [] h) ?_;rfl
set_option tactic.hygienic true in
theorem Zry {env:Env} {names:List (Str×NameKind)} {acc:List (Str×Addr)} {n:Str} {a:Addr} (h:(n,a)∈Zdg env names acc):(n,a)∈acc∨((n,NameKind.free)∈names∧a=(env.cells.lookup n).getD 0):=by
 induction names generalizing acc with
 | nil=>exact .inl h
 | cons nk r ih =>
  obtain ⟨n',k⟩:=nk;unfold Zdg at h;split at h
  ·rename_i hk;rcases ih h with h | ⟨h1,h2⟩
   ·rcases mem_cons.mp h with h | h
    ·cases h;exact .inr ⟨by refine rl (Eq.symm (by simpa using hk:k = .free)) ?_;exact .head _,rfl⟩
    ·exact .inl h
   ·exact .inr ⟨.tail _ h1,h2⟩
  ·rcases ih h with h | ⟨h1,h2⟩
   ·exact .inl h
   ·exact .inr ⟨.tail _ h1,h2⟩
theorem Zr0 {env:Env} {names:List (Str×NameKind)} {acc:List (Str×Addr)} {p:Str×Addr} (h:p∈acc):p∈Zdg env names acc:=by
 induction names generalizing acc with
 | nil=>exact h
 | cons nk r ih =>
  unfold Zdg;split
  ·exact ih (.tail _ h)
  ·exact ih h
theorem Zrz {env:Env} {names:List (Str×NameKind)} {acc:List (Str×Addr)} {n:Str} (h:(n,NameKind.free)∈names):(n,(env.cells.lookup n).getD 0)∈Zdg env names acc:=by
 induction names generalizing acc with
 | nil=>cases h
 | cons nk r ih =>
  unfold Zdg;rcases mem_cons.mp h with h | h
  ·cases h;simp only [beq_self_eq_true,if_true];exact Zr0 (.head _)
  ·split<;>exact ih h
theorem Zih {env:Env} {names:List (Str×NameKind)} {x:Str} :
  (names.map fun (n,k)=>if (k==NameKind.free&&env.scope.kind==.function&&env.kindOf n==some .cell) then (n,NameKind.cell) else (n,k)).lookup x =
   (names.lookup x).map fun k=>if (k==NameKind.free&&env.scope.kind==.function&&env.kindOf x==some .cell) then NameKind.cell else k:=by
 induction names with
 | nil=>rfl
 | cons nk r ih =>
  obtain ⟨n,k⟩:=nk;show List.lookup x ((if (k==NameKind.free&&env.scope.kind==.function&&env.kindOf n==some .cell)=true then (n,NameKind.cell) else (n,k))::_)=_;cases hx:x==n with
  | true =>
   have:x=n:=by simpa using hx
   subst this;split<;>simp_all [lookup_cons]
  | false =>
   split<;>simp only [lookup_cons,hx]<;>exact ih
theorem Zdr {l:List (Str×NameKind)} {n:Str} {k:NameKind} (h:l.lookup n=some k):(n,k)∈l:=mem_of_lookup h
set_option tactic.hygienic true in
theorem Zkz {nm ts:List Str} {i:Nat} {n:Str} (h:(Zdy nm ts)[i]? = some n) (hn:n.length≠0):nm[i]? = some n∧n ∉ ts:=by
 unfold Zdy at h;rw [getElem?_map,map_eq_some_iff] at h;obtain ⟨y,h1,h2⟩:=h;split at h2
 ·subst h2;exact absurd rfl hn
 ·rename_i hc;subst h2;exact ⟨h1,by simpa using hc⟩
structure Z1w (sc csc:Scope) (nm ts:List Str):Prop where
 kind:csc.kind = .function
 loc:∀ t∈ts,csc.names.lookup t=some .local
 nd:ts.Nodup
 dot:ofString ".0" ∉ nm
 cell:∀ p∈csc.names,p.2≠.cell
 lcl:∀ p∈csc.names,p.2 = .local→csc.names.lookup p.1=some .local∧(p.1∈ts∨p.1=ofString ".0")
 free:∀ p∈csc.names,p.2 = .free→(sc.names.lookup p.1=some .cell∧p.1∈nm)∧csc.names.lookup p.1=some .free
 len:∀ p∈csc.names,p.1.length≠0
theorem Zyn {a:NameKind} {b:NameKind} {c:Bool} (h:(a != b||c)=true) (e:a=b):c=true:=by
 rw [e,show (b != b)=false from bne_self_eq_false' ..] at h;exact h
theorem Zez {sc csc:Scope} {nm ts:List Str} (h:Zct sc csc nm ts=true):Z1w sc csc nm ts:=by
 unfold Zct at h;have h5:=all_eq_true.mp (and2 h).2;have h4:=and2 (and2 h).1;have h3:=and2 h4.1;have h2:=and2 h3.1;have h1:=all_eq_true.mp h2.2;refine ⟨eq_of_beq h2.1,fun t ht=>eq_of_beq (and2 (and2 (h1 t ht)).1).1,of_decide_eq_true h3.2,fun z=>?_,fun p hp z=>?_,fun p hp z=>?_,fun p hp z=>?_,fun p hp z=>?_⟩
 ·have:=h4.2;rw [contains_iff_mem.mpr z] at this;contradiction
 ·have:=(and2 (and2 (and2 (h5 p hp)).1).1).1;rw [z] at this;contradiction
 ·have:=and2 (Zyn (and2 (and2 (and2 (h5 p hp)).1).1).2 z);exact ⟨eq_of_beq this.1,((Bool.or_eq_true ..).mp this.2).imp contains_iff_mem.mp eq_of_beq⟩
 ·have:=and2 (Zyn (and2 (and2 (h5 p hp)).1).2 z);have t:=and2 this.1;exact ⟨⟨eq_of_beq t.1,contains_iff_mem.mp t.2⟩,eq_of_beq this.2⟩
 ·have:=(and2 (h5 p hp)).2;rw [z] at this;contradiction
set_option tactic.hygienic true in
theorem Frm.inner {R R':RR} {env:Env} {sc csc:Scope} {nm ts:List Str} {V:VV} {xv:List AV} {C:Addr} {m:Str→Option Value} (fr:Frm R env sc nm V) (hm:Zct sc csc nm ts=true) (hC:R' C=some (.ns m)) (hk:∀ b r,R b=some r→R' b=some r)
  (hl:xv.length=ts.length) (hts:∀ (j:Nat) t,ts[j]? = some t→∃ a u,xv[j]? = some a∧m t=some u∧VR a u):Frm R' (compEnvC csc (Zdg env csc.names []) C env) csc (Zdy nm ts++ts) (V++xv.map some):=by
 have F:=Zez hm;clear hm;have hkd:∀ n,(compEnvC csc (Zdg env csc.names []) C env).kindOf n=(csc.names.lookup n).map fun k=>if (k==NameKind.free&&env.scope.kind==.function&&env.kindOf n==some .cell) then NameKind.cell else k:=fun n=>Zih;have hfree:∀ n,csc.names.lookup n=some .free→env.kindOf n=some .cell∧∃ i,nm[i]? = some n:=fun n hn=>by
  have f:=F.free (n,.free) (Zdr hn) rfl;exact ⟨fr.cco n f.1.1,mem_iff_getElem?.mp f.1.2⟩
 have hnc:∀ n,csc.names.lookup n≠some .cell:=fun n hn=>F.cell (n,.cell) (Zdr hn) rfl;have hlocal:∀ n,csc.names.lookup n=some .local→n∈ts∨n=ofString ".0":=fun n hn=>(F.lcl (n,.local) (Zdr hn) rfl).2;have hlen:∀ n k,csc.names.lookup n=some k→n.length≠0:=fun n k hn=>F.len (n,k) (Zdr hn);have hclook:∀ n a,(Zdg env csc.names []).lookup n=some a→a=(env.cells.lookup n).getD 0∧(n,NameKind.free)∈csc.names:=fun n a h=>by
  rcases Zry (mem_of_lookup h) with h | ⟨h1,h2⟩
  ·contradiction
  ·exact ⟨h2,h1⟩
 have hcell:∀ n,csc.names.lookup n=some .free→∃ a,env.cells.lookup n=some a∧(Zdg env csc.names []).lookup n=some a:=fun n hn=>by
  obtain ⟨k1,i,hi⟩:=hfree n hn;obtain ⟨a,x,v,c1,_⟩:=fr.cell i n hi (.inl k1);have hmem:=Zrz (env:=env) (acc:=[]) (Zdr hn);have hs:((Zdg env csc.names []).lookup n).isSome=true:=by
   cases q:(Zdg env csc.names []).lookup n with
   | some=>rfl
   | none=>have:=List.lookup_eq_none_iff.mp q _ hmem;simp at this
  obtain ⟨b,hb⟩:=isSome_iff_exists.mp hs;obtain ⟨e1,_⟩:=hclook n b hb;rw [c1] at e1;exact ⟨a,c1,by refine rl hb (rl e1 ?_);rfl⟩
 refine ⟨F.kind,fr.glob,fr.blt,fun id h=>?_,fun id h=>?_,fun id h=>?_,fun id h=>?_,fun id h=>absurd h (hnc id),?_,fun n n' a e e'=>?_,⟨m,hC,fun i n hi hk'=>?_⟩,fun i n hi hk'=>?_⟩
 ·refine rl (hkd ..) ?_;unfold Zq8 at h;refine rl (beq_iff_eq.mp h ..) ?_;rfl
 ·refine rl (hkd ..) ?_;rcases Zkw h with z | z | z
  ·refine rl z ?_;exact .inl rfl
  ·exact absurd z (hnc id)
  ·refine rl z ?_;show some (if _ then _ else _)=_∨some (if _ then _ else _)=_∨some (if _ then _ else _)=_;split
   ·exact .inr (.inl rfl)
   ·exact .inr (.inr rfl)
 ·refine rl (hkd ..) ?_;rcases Zi1 h with z | z
  ·refine rl z ?_;exact .inl rfl
  ·exact absurd z (hnc id)
 ·refine rl (hkd ..) (rl (h ..) ?_);rfl
 ·simp only [length_append,length_map,Zdy,fr.len,hl]
 ·obtain ⟨e1,f1⟩:=hclook n a e;obtain ⟨e2,f2⟩:=hclook n' a e';have g1:=(F.free _ f1 rfl).2;have g2:=(F.free _ f2 rfl).2;obtain ⟨a1,c1,_⟩:=hcell n g1;obtain ⟨a2,c2,_⟩:=hcell n' g2;rw [c1] at e1;rw [c2] at e2;simp only [getD_some] at e1 e2;exact fr.inj n n' a (by exact rl c1 (rl e1 rfl)) (by exact rl c2 (rl e2 rfl))
 ·have hloc:csc.names.lookup n=some .local:=by
   rw [hkd] at hk';cases q:csc.names.lookup n with
   | none=>rw [q] at hk';cases hk'
   | some k =>
    rw [q] at hk';simp only [map_some,Option.some.injEq] at hk';split at hk'
    ·contradiction
    ·exact rl hk' rfl
  rcases lt_or_ge i (Zdy nm ts).length with hlt | hge
  ·rw [getElem?_append_left hlt] at hi;obtain ⟨e1,e2⟩:=Zkz hi (hlen n _ hloc);rcases hlocal n hloc with z | z
   ·exact absurd z e2
   ·exfalso
    exact F.dot (z▸mem_of_getElem? e1)
  ·rw [getElem?_append_right hge] at hi;obtain ⟨a,u,a1,a2,a3⟩:=hts _ n hi;refine ⟨some a,?_,by refine rl a2 ?_;exact .some a3⟩;have hL:(Zdy nm ts).length=V.length:=by simp [Zdy,fr.len]
   rw [hL] at hge a1;refine rl (getElem?_append_right hge) (rl (getElem?_map) (rl a1 ?_));rfl
 ·have hfr:csc.names.lookup n=some .free:=by
   rw [hkd] at hk';cases q:csc.names.lookup n with
   | none=>rw [q] at hk';rcases hk' with hk' | hk'<;>cases hk'
   | some k =>
    rw [q] at hk';simp only [map_some,Option.some.injEq] at hk';split at hk'
    ·rename_i z;simp only [Bool.and_eq_true,beq_iff_eq] at z;exact rl z.1.1 rfl
    ·rcases hk' with hk' | hk'
     ·exact absurd (q.trans (by exact rl hk' rfl)) (hnc n)
     ·exact rl hk' rfl
  rcases lt_or_ge i (Zdy nm ts).length with hlt | hge
  ·rw [getElem?_append_left hlt] at hi;obtain ⟨e1,e2⟩:=Zkz hi (hlen n _ hfr);obtain ⟨k1,_⟩:=hfree n hfr;obtain ⟨a,x,v,c1,c2,c3,c4⟩:=fr.cell i n e1 (.inl k1);obtain ⟨a',d1,d2⟩:=hcell n hfr;rw [c1] at d1;obtain rfl:=osi d1;have hlt':i<V.length:=(gsi c3).1;exact ⟨a,x,v,d2,hk _ _ c2,by refine rl (getElem?_append_left hlt') ?_;exact c3,c4⟩
  ·rw [getElem?_append_right hge] at hi;have:=F.loc n (mem_of_getElem? hi);rw [hfr] at this;contradiction
end Mine
end
section
namespace Mine
section
variable {c:Cx} {R:RR} {H:Zaa} {A:Around} {E:Value→Shared→Prop} {s:Shared}
theorem Zwx {v:AV} {k:Nat} {a:Addr} {o:Obj} {Q:Value→Shared→Prop} (hi:ItObj H v k o) (ho:s.heap.get? a=some o) (q:Q (.ref a) s):wpAny (model c.prog c.w) A (pyIter (.ref a)) Q E s:=by
 cases v with
 | ref p =>
  simp only [ItObj] at hi;split at hi
  ·exact wpAny_pyIter_listiter ⟨o,ho,hi.1,hi.2⟩ q
  ·exact wpAny_pyIter_tupleiter ⟨o,ho,hi.1,hi.2⟩ q
  ·subst hi;exact wpAny_pyIter_rangeiter ho q
  ·exact wpAny_pyIter_keyiter ⟨o,ho,hi.1,hi.2⟩ q
  ·exact hi.elim
 | str y =>
  obtain ⟨t,hc,hd⟩:=hi;rcases hc with hc | hc
  ·exact wpAny_pyIter_striter_ascii ⟨o,ho,hc,hd⟩ q
  ·exact wpAny_pyIter_striter_wide ⟨o,ho,hc,hd⟩ q
 | none=>exact hi.elim
 | bool b=>exact hi.elim
 | int i=>exact hi.elim
theorem St1.give {h h':Heap} {x:Addr} {r₀:Res} {ao:AObj} (S:St1 c R H h) (hx:R x=some r₀) (hs:Heap.SameBut x h h') (hni:∀ cl es,ao≠.inst cl es) (ho:∀ D,ORep c h' D x ao):H x=none∧St1 c (Zco R x) (up H x ao) h':=by
 have bx:c.base.objs.size≤x:=(S.res x _ hx).1;obtain ⟨s1,s2,s3,D,s4⟩:=S.dropAny hx hs.extBut (by refine rl hs.1 ?_;exact S.size);obtain ⟨D₀,s40⟩:=S.rep;have hHx:H x=none:=by
  cases q:H x with
  | none=>rfl
  | some o=>have:=(s40.above x o q).2;rw [hx] at this;contradiction
 have hD:∀ a cl es,H a=some (.inst cl es)→D a≠x:=fun a cl es e z=>by
  have hax:a≠x:=fun w=>by rw [w,hHx] at e;contradiction
  obtain ⟨e1,ents,n,e2,_⟩:=s4.rep a _ e;obtain ⟨p1,ents',n',p2,_⟩:=s40.rep a _ e;rw [hs.2 a hax] at e1;rw [p1] at e1;have hd:D₀ a=D a:=by injection e1 with e1;injection e1 with _ z;exact osi z
  have:=(s40.dict a cl es e).2.1;rw [hd,z,hx] at this;contradiction
 refine ⟨hHx,s1,s2,s3,D,⟨fun a o e=>?_,fun a o e=>?_,fun a cl es e=>?_,fun a b cl es cl' es' e e'=>?_⟩⟩
 ·by_cases q:a=x
  ·subst q;rw [Zac] at e;obtain rfl:=osi e;exact ho D
  ·rw [Zab q] at e;exact s4.rep a o e
 ·by_cases q:a=x
  ·subst q;exact ⟨abv bx,Zce⟩
  ·rw [Zab q] at e;exact s4.above a o e
 ·by_cases q:a=x
  ·subst q;rw [Zac] at e;obtain rfl:=osi e;exact absurd rfl (hni cl es)
  ·rw [Zab q] at e;obtain ⟨y1,y2,y3⟩:=s4.dict a cl es e;exact ⟨y1,y2,by refine rl (Zab (hD a cl es e)) ?_;exact y3⟩
 ·by_cases q:a=x
  ·subst q;rw [Zac] at e;obtain rfl:=osi e;exact absurd rfl (hni cl es)
  ·by_cases q':b=x
   ·subst q';rw [Zac] at e';obtain rfl:=osi e';exact absurd rfl (hni cl' es')
   ·rw [Zab q] at e;rw [Zab q'] at e';exact s4.inj a b cl es cl' es' e e'
end
theorem St.give {h h':Heap} {x:Addr} {r₀:Res} {ao:AObj} (S:St c R H h) (hx:R x=some r₀) (hs:Heap.SameBut x h h') (hni:∀ cl es,ao≠.inst cl es) (ho:∀ D,ORep c h' D x ao) (hb:ao.isB=false:=by rfl):H x=none∧St c (Zco R x) (up H x ao) h':=by
 obtain ⟨H₁,s,r⟩:=S;obtain ⟨e,s'⟩:=s.give hx hs hni ho;exact ⟨r.none e,_,s',r.put hb (.inl e)⟩
def XOk (g:Gx) (sc:Scope) (nm:List Str) (x:X) (e:Expr):Prop :=
 ∀ (A:Around) (R:RR) (V:VV) (env:Env) (e₀:Env) (l₀:List Env) (s₀:Shared),Ev g A R e₀ l₀→Frm R env sc nm V→HX g A R V s₀ x (eval e env)∧HT g A R V s₀ x (isTrue e env (eval e env))
noncomputable def RC (R:RR) (a D C:Addr) (o l:Obj) (m:Str→Option Value):RR:=rup (rup (rup R a (.obj o)) D (.obj l)) C (.ns m)
theorem Zmy {g:Gx} {R:RR} {s₀:Shared} {e:Value} {s':Shared} {P:Prop} (h:TE g R s₀ (fun _ _=>False) e s'):P:=by
 obtain ⟨_,_,_,_,_,_,h⟩:=h;exact h.elim
theorem Zuy {R R':RR} {l:List Env} (h:Stk R l) (k:∀ b r,R b=some r→R' b=some r):Stk R' l:=fun e he=>by
 have F:=h e he;obtain ⟨m,hm⟩:=F.ns;exact ⟨F.kind,F.frame,F.gen,F.co,F.blt,F.glob,m,k _ _ hm⟩
inductive Ze3 (g:Gx) (sc:Scope) (nm:List Str):Option X→List Expr→Prop
 | nil:Ze3 g sc nm none []
 | one {x e}:XOk g sc nm x e→Ze3 g sc nm (some x) [e]
section
variable {g:Gx} {A:Around} {R:RR} {V:VV} {s₀:Shared} {env:Env} {mg mb:Str→Option Value} {e₀:Env} {l₀:List Env} {sc csc:Scope} {nm:List Str}
theorem Zss {c:Option X} {ifs:List Expr} {H:Zaa} {s:Shared} {Q:Bool→Zaa→Prop} {E:String→Zaa→Prop} (h:Ze3 g sc nm c ifs) (ev:Ev g A R e₀ l₀) (fr:Frm R env sc nm V) (S:St g.c R H s.heap) (m:Sm s₀ s)
  (q:wpC g c V Q E H):wpAny (model g.c.prog g.c.w) A (forIn ifs true fun c r=>if r=true then do let ok ← isTrue c env (eval c env);pure (ForInStep.yield ok) else pure (ForInStep.yield r)) (TB g R s₀ Q) (TE g R s₀ E) s:=by
 cases h with
 | nil=>exact wpAny_tests_nil ⟨H,S,m,q⟩
 | one hx =>
  rw [Zbg] at q;refine wpAny_tests_one (wpAny_mono ((hx A R V env e₀ l₀ s₀ ev fr).2 H s (fun _ b H=>Q b H) E S m q) (fun b s' z=>?_) fun _ _ z=>z);obtain ⟨v,H',S',m',q',_⟩:=z;exact ⟨H',S',m',q'⟩
set_option tactic.hygienic true in
theorem Zsd {c:Cx} {R:RR} {H:Zaa} {A:Around} {E:Value→Shared→Prop} {env:Env} {Q:Unit→Shared→Prop} (hp:(env.scope.kind==.class||(env.scope.kind==.module&&env.locals != env.globals))=false)
  {es:List Expr}:∀ {ts:List Str} {ys:List AV} {vs:List Value} {m:Str→Option Value} {s:Shared},Zdd es ts=true→ts.Nodup→(∀ t∈ts,env.kindOf t=some .local)→VRs ys vs→ys.length=ts.length→St c (rup R env.locals (.ns m)) H s.heap →
  (∀ s' m',(∀ t,t ∉ ts→m' t=m t)→(∀ (j:Nat) t,ts[j]? = some t→∃ a v,ys[j]? = some a∧m' t=some v∧VR a v)→St c (rup R env.locals (.ns m')) H s'.heap→Sm s s'→Q () s')→wpAny (model c.prog c.w) A (assignInOrder ((assignEach es env).map (·.2)) vs) Q E s:=by
 induction es with
 | nil =>
  intro ts ys vs m s h _ _ hv hl S q;obtain rfl:ts=[]:=isEmpty_iff.mp h;cases hv with
  | nil=>exact wpAny_pure (q s m (fun _ _=>rfl) (fun j t h=>by simp at h) S ⟨_,_,rfl⟩)
  | cons=>cases hl
 | cons e r ih =>
  intro ts ys vs m s h nd hk hv hl S q;obtain ⟨id,p,ts',rfl,rfl,h1⟩:=Zi0 h;obtain ⟨nd1,nd2⟩:=nodup_cons.mp nd;cases hv with
  | nil=>cases hl
  | cons hv1 hvr =>
  rename_i y v ys' vs';show wpAny _ A (do holding vs' (assign (.Name id p) env v);assignInOrder ((assignEach r env).map (·.2)) vs') Q E s;refine wpAny_bind (wpAny_holding (wpAny_assign_Name (wpAny_storeName_local (hk id (.head _)) (S.res _ _ Zaq).2 (fun h₃ hn3 hs₃=>?_) hp)));have S₃:=S.setRes (r':=.ns _) Zaq hs₃ hn3;rw [Zlw] at S₃;refine ih h1 nd2 (fun t ht=>hk t (.tail _ ht)) hvr (Nat.succ.inj hl) S₃ fun s' m' k1 k2 S' ms=>q s' m' (fun t ht=>?_) (fun j t hj=>?_) S' (Sm.trans ⟨_,_,rfl⟩ ms)
  ·simp only [mem_cons,not_or] at ht;refine rl (k1 t ht.2) ?_;exact if_neg ht.1
  ·cases j with
   | zero =>
    obtain rfl:=osi hj;exact ⟨y,v,rfl,by refine rl (k1 id nd1) ?_;exact if_pos rfl,hv1⟩
   | succ j=>exact k2 j t hj
set_option tactic.hygienic true in
theorem Zuq {c:Cx} {R:RR} {H:Zaa} {A:Around} {E:Value→Shared→Prop} {env:Env} {Q:Unit→Shared→Prop} {mg mb:Str→Option Value} {tg:Expr} {tup:Bool} {ts:List Str} {y:AV} {u:Value} {P:List AV→Prop} {m:Str→Option Value} {s:Shared} (C:c.Ok mg mb) (hh:A.handled=none)
  (hp:(env.scope.kind==.class||(env.scope.kind==.module&&env.locals != env.globals))=false) (htg:TgN tg tup ts) (nd:ts.Nodup) (hk:∀ t∈ts,env.kindOf t=some .local) (hu:VR y u) (hw:if tup then Zb7 ts.length y H P else P [y])
  (S:St c (rup R env.locals (.ns m)) H s.heap)
  (q:∀ s' m' ys,P ys→ys.length=ts.length→(∀ (j:Nat) t,ts[j]? = some t→∃ a v,ys[j]? = some a∧m' t=some v∧VR a v)→St c (rup R env.locals (.ns m')) H s'.heap→Sm s s'→Q () s'):wpAny (model c.prog c.w) A (assign tg env u) Q E s:=by
 cases htg with
 | name =>
  refine wpAny_assign_Name (wpAny_storeName_local (hk _ (.head _)) (S.res _ _ Zaq).2 (fun h₃ hn3 hs₃=>?_) hp);have S₃:=S.setRes (r':=.ns _) Zaq hs₃ hn3;rw [Zlw] at S₃;refine q _ _ [y] hw rfl (fun j t hj=>?_) S₃ ⟨_,_,rfl⟩;cases j with
  | zero=>obtain rfl:=osi hj;exact ⟨y,u,rfl,if_pos rfl,hu⟩
  | succ j=>simp at hj
 | tup h1 =>
  simp only [if_true] at hw;have hx:∃ p xs,y = .ref p∧(H p=some (.tuple xs)∨H p=some (.list xs))∧xs.length=ts.length∧P xs:=by
   cases y with
   | ref p =>
    dsimp only [Zb7] at hw;split at hw
    ·rename_i xs e;exact ⟨p,xs,rfl,.inl e,hw⟩
    ·rename_i xs e;exact ⟨p,xs,rfl,.inr e,hw⟩
    ·exact hw.elim
   | _=>exact hw.elim
  obtain ⟨p,xs,rfl,hx,hl,hP⟩:=hx;cases hu;obtain ⟨l1,l2⟩:=Zgy (env:=env) h1;refine rl (assign_Tuple ..) ?_;unfold unpack;refine rl l1 (rl l2 (rl hl.symm ?_));refine wpAny_bind (wpAny_standAt (wpAny_bind (wpAny_holding (Zj7 C hh Zaq S hx fun s₁ vs hv S₁ m₁=>?_))));exact Zsd hp h1 nd hk hv hl S₁ fun s' m' _ k2 S' ms=>q s' m' xs hP hl k2 S' (m₁.trans ms)
theorem Z0l {tg:Expr} {tup:Bool} {ts:List Str} (h:TgN tg tup ts):TgK tg:=by
 cases h with
 | name=>exact .inl ⟨_,_,rfl⟩
 | tup=>exact .inr ⟨_,_,_,rfl⟩
theorem Zrw {prog:Program} {w:World} {R:Result→Shared→Prop} {A:Around} {s:Shared} {elt target iter:Expr} {ifs:List Expr} {scope:Scope} {pos:Pos} {it acc:Value} {env:Env} (I:Nat→Shared→Prop)
  (turn:∀ n s,I n s→wpAny (model prog w) A (pyNext it) (fun r s₁=>match r with
   | none=>R (.ok .next) s₁
   | some v=>wpAny (model prog w) A (letOwnedTupleGo target it v) (fun _ s1'=>wpAny (model prog w) A (assign target env v) (fun _ s₂ =>
     wpAny (model prog w) A (forIn ifs true fun c r=>if r=true then do let ok ← isTrue c env (eval c env);pure (ForInStep.yield ok) else pure (ForInStep.yield r)) (fun ok s₃ =>
      if ok=true then wpAny (model prog w) A (eval elt env) (fun x s₄ =>
       wpAny (model prog w) A (call (.builtin "list.append") [acc,x]) (fun _ s5=>∃ m,m<n∧I m s5) (notedBy (model prog w) A env fun e s'=>R (.error e) s') s₄) (notedBy (model prog w) A env fun e s'=>R (.error e) s') s₃
      else ∃ m,m<n∧I m s₃) (notedBy (model prog w) A env fun e s'=>R (.error e) s') s₂) (notedBy (model prog w) A env fun e s'=>R (.error e) s') s1') (notedBy (model prog w) A env fun e s'=>R (.error e) s') s₁) (notedBy (model prog w) A env fun e s'=>R (.error e) s') s)
  (n:Nat) (h:I n s):codeAny (model prog w) A (.compLoop (.ListComp elt [⟨target,iter,ifs,0⟩] scope pos) 0 it acc env) R s:=by
 refine codeAny_loop rfl I (fun n s hI=>?_) n h;show wpAny _ A ((compTurn (.ListComp elt [⟨target,iter,ifs,0⟩] scope pos) 0 it acc env).onRaise (fun x=>do noteFrame x env;theTreesLotGoes x)) _ _ s;refine wpAny_noted ?_;refine rl (compTurn_list ..) ?_;refine wpAny_bind (wpAny_standAt (wpAny_bind (wpAny_mono (turn n s hI) (fun r s₁ h₁=>?_) fun _ _ h'=>h')));cases r with
 | none=>exact wpAny_pure h₁
 | some v =>
  refine wpAny_bind (wpAny_mono h₁ (fun _ s1' h1'=>?_) fun _ _ h'=>h');refine wpAny_bind (wpAny_mono h1' (fun _ s₂ h₂=>wpAny_bind (wpAny_mono h₂ (fun ok s₃ h₃=>?_) fun _ _ h'=>h')) fun _ _ h'=>h');cases ok with
  | false=>exact wpAny_pure ⟨rfl,h₃⟩
  | true =>
   exact wpAny_bind (wpAny_bind (wpAny_mono h₃ (fun x s₄ h₄=>wpAny_bind (wpAny_mono h₄ (fun _ s5 h₅=>wpAny_pure (wpAny_pure ⟨rfl,h₅⟩)) fun _ _ h'=>h')) fun _ _ h'=>h'))
inductive Z0d (c:Cx) (R:RR) (s₀:Shared) (a D C:Addr) (av:AV) (l:Nat) (I:Nat→List AV→Zaa→Prop) (n:Nat) (s:Shared):Prop
 | mk (k:Nat) (o':Obj) (m':Str→Option Value) (vs:List Value) (cnt:Nat) (acc:List AV) (H':Zaa) (hn:n=l - k) (hk:k≤l) (it:ItObj H' av k o') (hv:VRs acc vs) (ha:acc.length≤k) (S:St c (RC R a D C o' (listOf vs.toArray cnt) m') H' s.heap) (m:Sm s₀ s) (q:I k acc H'):Z0d c R s₀ a D C av l I n s
theorem Zi4 {H H':Zaa} {av:AV} {xs:List AV} (h:Zdu H H' av) (e:Zal H av=some xs):Zal H' av=some xs:=by
 cases av with
 | ref a =>
  replace h:H' a=H a:=h;unfold Zal at e ⊢;dsimp only at e ⊢;refine rl h ?_;exact e
 | _=>exact e
theorem ItObj.same2 {H H' H'':Zaa} {av:AV} {k:Nat} {o:Obj} (h:ItObj H' av k o) (h1:Zdu H H' av) (h2:Zdu H H'' av):ItObj H'' av k o:=by
 cases av with
 | ref a=>exact h.same (show H'' a=H' a from (show H'' a=H a from h2).trans (show H' a=H a from h1).symm)
 | _=>exact h
section
variable {a D C:Addr} (hDa:D≠a) (hCa:C≠a) (hCD:C≠D) {o o' l l':Obj} {m m':Str→Option Value}
theorem RC_C:RC R a D C o l m C=some (.ns m):=Zaq
include hCD in
theorem RC_D:RC R a D C o l m D=some (.obj l):=by unfold RC;exact rl (Zah (Ne.symm hCD)) (rl Zaq rfl)
theorem RC_sC:rup (RC R a D C o l m) C (.ns m')=RC R a D C o l m':=by
 funext b
 unfold RC;by_cases q:b=C
 ·subst q;exact rl Zaq (rl Zaq rfl)
 ·exact rl (Zah q) (rl (Zah q) (rl (Zah q) rfl))
include hCD in
theorem Z1u:rup (RC R a D C o l m) D (.obj l')=RC R a D C o l' m:=by
 funext b
 unfold RC;by_cases q:b=D
 ·subst q;exact rl Zaq (rl (Zah hCD.symm) (rl Zaq rfl))
 ·refine rl (Zah q) ?_;by_cases q2:b=C
  ·subst q2;exact rl Zaq (rl Zaq rfl)
  ·exact rl (Zah q2) (rl (Zah q2) (rl (Zah q) (rl (Zah q) rfl)))
include hDa hCa
theorem RC_a:RC R a D C o l m a=some (.obj o):=by unfold RC;exact rl (Zah (Ne.symm hCa)) (rl (Zah (Ne.symm hDa)) (rl Zaq rfl))
theorem Z1t:rup (RC R a D C o l m) a (.obj o')=RC R a D C o' l m:=by
 funext b
 by_cases q:b=a
 ·subst q;exact rl Zaq (rl (RC_a hDa hCa) rfl)
 ·refine rl (Zah q) ?_;unfold RC;by_cases q2:b=C
  ·subst q2;exact rl Zaq (rl Zaq rfl)
  ·refine rl (Zah q2) (rl (Zah q2) ?_);by_cases q3:b=D
   ·subst q3;exact rl Zaq (rl Zaq rfl)
   ·exact rl (Zah q3) (rl (Zah q3) (rl (Zah q) (rl (Zah q) rfl)))
end
theorem Z1v {a D C:Addr} {o l:Obj} {m:Str→Option Value} (ha:R a=none) (hD:R D=none) (hC:R C=none):∀ b r,R b=some r→RC R a D C o l m b=some r:=fun b r e=>by
 have h:∀ {z},R z=none→b≠z:=fun hz q=>by rw [q,hz] at e;contradiction
 unfold RC;refine rl (Zah (h hC)) (rl (Zah (h hD)) (rl (Zah (h ha)) ?_));exact e
def Zxs (g:Gx) (c:Option X) (x:X) (V:VV) (I:Nat→List AV→Zaa→Prop) (k:Nat) (acc:List AV) (H':Zaa) (ys:List AV):Prop:=wpC g c (V++ys.map some) (fun b H=>if b then wpX g x (V++ys.map some) (fun y H=>I (k+1) (acc++(some y).toList) H) (fun _ _=>False) H else I (k+1) (acc++(none:Option AV).toList) H) (fun _ _=>False) H'
theorem Zrx {x:X} {c:Option X} {elt iter tg:Expr} {ifs:List Expr} {tup:Bool} {ts:List Str} {pos:Pos} {a D C:Addr} {xs:List AV} {av:AV} {H₀:Zaa} {I:Nat→List AV→Zaa→Prop} {RR':Result→Shared→Prop} {s₁:Shared} {o:Obj} {m₁:Str→Option Value}
  (Ck:g.c.Ok mg mb) (htg:TgN tg tup ts) (hh:A.handled=none) (ev:Ev g A R e₀ l₀) (fr:Frm R env sc nm V) (hm:Zct sc csc nm ts=true) (hx:XOk g csc (Zdy nm ts++ts) x elt) (hc:Ze3 g csc (Zdy nm ts++ts) c ifs)
  (ha:R a=none) (hD:R D=none) (hC:R C=none) (hDa:D≠a) (hCa:C≠a) (hCD:C≠D) (hsv:∀ y,av = .str y→PyData.strOk y=true)
  (hxs:Zal H₀ av=some xs) (hz:xs.length≤sizeLine)
  (step:∀ k acc H',I k acc H'→Zdu H₀ H' av∧∀ y,xs[k]? = some y→if tup then Zb7 ts.length y H' (Zxs g c x V I k acc H') else Zxs g c x V I k acc H' [y])
  (h0:I 0 [] H₀) (ho:ItObj H₀ av 0 o) (S:St g.c (RC R a D C o (listOf #[] 0) m₁) H₀ s₁.heap) (ms:Sm s₀ s₁)
  (fin:∀ acc H' s' m',I xs.length acc H'→H' D=none→St g.c (rup R C (.ns m')) (up H' D (.list acc)) s'.heap→Sm s₀ s'→RR' (.ok .next) s') :
  codeAny (model g.c.prog g.c.w) A (.compLoop (.ListComp elt [⟨tg,iter,ifs,0⟩] csc pos) 0 (.ref a) (.ref D) (compEnvC csc (Zdg env csc.names []) C env)) RR' s₁:=by
 have F:=Zez hm;have hRa:∀ o l m,RC R a D C o l m a=some (.obj o):=fun o l m=>RC_a hDa hCa;have hRD:∀ o l m,RC R a D C o l m D=some (.obj l):=fun o l m=>RC_D hCD;have hRC:∀ o l m,RC R a D C o l m C=some (.ns m):=fun o l m=>RC_C;have hle:∀ o l m b r,R b=some r→RC R a D C o l m b=some r:=fun o l m=>Z1v ha hD hC;refine Zrw (Z0d g.c R s₀ a D C av xs.length I) ?_ xs.length
  ⟨0,o,m₁,[],0,[],H₀,rfl,zero_le _,ho,.nil,le_refl _,S,ms,h0⟩
 rintro n s ⟨k,o',m',vs,cnt,acc,H',rfl,hk,hio,hvs,hacc,S',ms',hI⟩;obtain ⟨hsame,hstep⟩:=step k acc H' hI;have hxs':=Zi4 hsame hxs;cases hky:xs[k]? with
 | none =>
  have hkl:k=xs.length:=by have:=List.getElem?_eq_none_iff.mp hky;omega
  refine Zq7 hh hxs' hky hio (hRa _ _ _) (hRC _ _ _) S' fun s₂ S₂ m₂=>?_;have hD₂:Zco (RC R a D C o' (listOf vs.toArray cnt) m') a D=some (.obj (listOf vs.toArray cnt)):=by refine rl (Za4 hDa) ?_;exact hRD _ _ _
  obtain ⟨hd,S₃⟩:=S₂.give (ao:=.list acc) hD₂ ⟨rfl,fun _ _=>rfl⟩ (by intro _ _ z;contradiction) fun _=>⟨vs,cnt,(S₂.res _ _ hD₂).2,hvs⟩
  subst hkl;refine fin acc H' s₂ m' hI hd (S₃.weaken fun b r e=>?_) (ms'.trans m₂);by_cases q:b=C
  ·subst q;rw [Zaq] at e;obtain rfl:=osi e;refine rl (Za4 hCD) (rl (Za4 hCa) ?_);exact hRC _ _ _
  ·rw [Zah q] at e;have h1:b≠a:=fun z=>by rw [z,ha] at e;contradiction
   have h2:b≠D:=fun z=>by rw [z,hD] at e;contradiction
   refine rl (Za4 h2) (rl (Za4 h1) ?_);exact hle _ _ _ _ _ e
 | some y =>
  have hlt:k<xs.length:=(gsi hky).1;refine Zmd hxs' hky hio (hRa _ _ _) S' hsv fun s₂ u o₂ hu ho2 S₂ m₂=>?_;rw [Z1t hDa hCa] at S₂;have hw:=hstep y hky;refine Zm9 (Z0l htg) ho2 ((S₂.res _ _ (hRa _ _ _)).2) ?_;have hRR:RC R a D C o₂ (listOf vs.toArray cnt) m'=rup (RC R a D C o₂ (listOf vs.toArray cnt) m') (compEnvC csc (Zdg env csc.names []) C env).locals (.ns m'):=RC_sC.symm;rw [hRR] at S₂;refine Zuq (P:=Zxs g c x V I k acc H') Ck hh (by simp [compEnvC,relabel,F.kind]) htg F.nd (fun t ht=>lookup_relabel_local (F.loc t ht)) hu hw S₂ fun s₃ m₃ ys hw hyl hys S₃ ms3=>?_;rw [show rup (RC R a D C o₂ (listOf vs.toArray cnt) m') (compEnvC csc (Zdg env csc.names []) C env).locals (.ns m₃)=RC R a D C o₂ (listOf vs.toArray cnt) m₃ from RC_sC] at S₃;have ev':∀ o l m,Ev g A (RC R a D C o l m) e₀ l₀:=fun o l m=>⟨ev.aok,Zuy ev.stk (hle o l m)⟩
  have fr':∀ o l,Frm (RC R a D C o l m₃) (compEnvC csc (Zdg env csc.names []) C env) csc (Zdy nm ts++ts) (V++ys.map some):=fun o l =>
   fr.inner (xv:=ys) hm (hRC _ _ _) (hle _ _ _) hyl hys
  refine wpAny_mono (Zss hc (ev' _ _ _) (fr' _ _) S₃ ((ms'.trans m₂).trans ms3) hw) (fun ok s₄ z=>?_) fun _ _ z=>Zmy z;obtain ⟨H₄,S₄,m4,q₄⟩:=z;cases ok with
  | false =>
   simp only [Bool.false_eq_true,if_false,Option.toList_none,append_nil] at q₄ ⊢;have hs4:=(step _ _ _ q₄).1;exact ⟨xs.length - (k+1),by omega,k+1,o₂,_,vs,cnt,acc,H₄,rfl,hlt,ho2.same2 hsame hs4,hvs,by omega,S₄,m4,q₄⟩
  | true =>
   simp only [if_true] at q₄ ⊢;refine wpAny_mono ((hx A _ _ _ e₀ l₀ s₀ (ev' _ _ _) (fr' _ _)).1 H₄ s₄ _ _ S₄ m4 q₄) (fun w s5 z=>?_) fun _ _ z=>Zmy z;obtain ⟨bv,H₅,hw5,S5,m5,q5⟩:=z;have hs5:=(step _ _ _ q5).1;have hsz:vs.length≤sizeLine:=by have:=hvs.length;omega
   refine append_at (S5.res _ _ (hRD _ _ _)).2 (fun h₆ hs₆ ho6=>?_) (by simpa using hsz);have S₆:=S5.setRes (r':=.obj (listOf (vs++[w]).toArray (cnt+1))) (hRD _ _ _) hs₆ (by show h₆.get? D=_;refine rl ho6 ?_;simp [W.listOf]);rw [Z1u hCD] at S₆;exact ⟨xs.length - (k+1),by omega,k+1,o₂,_,vs++[w],cnt+1,acc++[bv],H₅,rfl,hlt,ho2.same2 hsame hs5,hvs.append (.one hw5),by simp;omega,S₆,m5.heap _,q5⟩
theorem Zlc {ts:List Str} (fr:Frm R env sc nm V) (hm:Zct sc csc nm ts=true):closureFor csc env=pure (Zdg env csc.names []):=by
 refine Zj2 fun p hp hk=>?_;have z:=(Zez hm).free p hp hk;obtain ⟨i,hi⟩:=mem_iff_getElem?.mp z.1.2;obtain ⟨a,x,v,c1,_⟩:=fr.cell i p.1 hi (.inl (fr.cco _ z.1.1));exact ⟨a,c1⟩
theorem Zie {ts:List Str} (hm:Zct sc csc nm ts=true):csc.kind = .function∧(∀ y∈csc.names,y.2≠.cell)∧∀ y∈csc.names,y.2 = .local→csc.names.lookup y.1=some .local :=
 have F:=Zez hm
 ⟨F.kind,F.cell,fun y hy hk=>(F.lcl y hy hk).1⟩
set_option tactic.hygienic true in
theorem Zi9 {x:X} {c:Option X} {elt iter tg:Expr} {ifs:List Expr} {tup:Bool} {ts:List Str} {pos:Pos} {xs:List AV} {av:AV} {u:Value} {H₀:Zaa} {I:Nat→List AV→Zaa→Prop} {RR':Value→Addr→Result→Shared→Prop} {s₁:Shared} {E:Value→Shared→Prop}
  (Ck:g.c.Ok mg mb) (htg:TgN tg tup ts) (hh:A.handled=none) (ev:Ev g A R e₀ l₀) (fr:Frm R env sc nm V) (hm:Zct sc csc nm ts=true) (hx:XOk g csc (Zdy nm ts++ts) x elt) (hc:Ze3 g csc (Zdy nm ts++ts) c ifs)
  (hv:VR av u) (S:St g.c R H₀ s₁.heap) (ms:Sm s₀ s₁) (hxs:Zal H₀ av=some xs) (hz:xs.length≤sizeLine) (h0:I 0 [] H₀)
  (step:∀ k acc H',I k acc H'→Zdu H₀ H' av∧∀ y,xs[k]? = some y→if tup then Zb7 ts.length y H' (fun ys=>wpC g c (V++ys.map some) (fun b H=>if b then wpX g x (V++ys.map some) (fun y H=>I (k+1) (acc++(some y).toList) H) (fun _ _=>False) H else I (k+1) (acc++(none:Option AV).toList) H) (fun _ _=>False) H') else wpC g c (V++[some y]) (fun b H=>if b then wpX g x (V++[some y]) (fun y H=>I (k+1) (acc++(some y).toList) H) (fun _ _=>False) H else I (k+1) (acc++(none:Option AV).toList) H) (fun _ _=>False) H')
  (fin:∀ D Ca acc H' s' m',R Ca=none→I xs.length acc H'→H' D=none→St g.c (rup R Ca (.ns m')) (up H' D (.list acc)) s'.heap→Sm s₀ s'→RR' (.ref D) Ca (.ok .next) s') :
  wpAny (model g.c.prog g.c.w) A (pyIter u) (fun it s₂=>wpAny (model g.c.prog g.c.w) A (newList []) (fun acc s₃=>wpAny (model g.c.prog g.c.w) A (newFunctionEnv csc env.globals (Zdg env csc.names []) [] env.qual none .none (some env)) (fun cenv s₄ =>
   codeAny (model g.c.prog g.c.w) A (.compStart (.ListComp elt [⟨tg,iter,ifs,0⟩] csc pos) 0 it acc { cenv with scope:=relabel csc env }) (RR' acc cenv.locals) s₄) E s₃) E s₂) E s₁:=by
 obtain ⟨hkind,hcell,_⟩:=Zie hm;have hsv:∀ y,av = .str y→PyData.strOk y=true:=by rintro y rfl;cases hv;assumption
 refine Zq6 Ck hv S hxs fun s₂ a o ha hHa ho S₂ m₂=>?_;refine wpAny_newObj_type (wpAny_newFunctionEnv hcell (by intro y hy;simp at hy) (fun h₁ hns1 hsb1=>?_) hkind);dsimp only at hns1 hsb1 ⊢;obtain ⟨hD1,hD2,S₃⟩:=S₂.newRes (x:=s₂.heap.objs.size) (r:=.obj (listOf #[] 0)) (h':=s₂.heap.push { cls:=.type "list",dict:=none,data:=.seq ([]:List Value).toArray }) (le_refl _) (fun _ _ z=>Heap.get?_push_of_some _ z) (by rw [Heap.size_push];omega) (Heap.get?_push_size _ rfl);generalize hH2:s₂.heap.push { cls:=.type "list",dict:=none,data:=.seq ([]:List Value).toArray } = H2 at hns1 hsb1 S₃ ⊢;obtain ⟨hC1,hC2,S₄⟩:=S₃.newRes (x:=H2.objs.size) (r:=.ns _) (h':=h₁) (le_refl _) (fun b ob z=>hsb1.extBut b ob (ne_of_lt (Heap.lt_size z)) (Heap.get?_push_of_some _ z)) (by rw [hsb1.1,Heap.size_push];omega) hns1;generalize s₂.heap.objs.size=D at hD1 hD2 S₃ S₄ hC1 ⊢;generalize H2.objs.size=Ca at hC1 hC2 S₄ hns1 hsb1 ⊢;have hDa:D≠a:=fun z=>by rw [z,Zaq] at hD1;contradiction
 have hCD:Ca≠D:=fun z=>by rw [z,Zaq] at hC1;contradiction
 rw [Zah hCD] at hC1;have hCa:Ca≠a:=fun z=>by rw [z,Zaq] at hC1;contradiction
 rw [Zah hCa] at hC1;rw [Zah hDa] at hD1;have loop:∀ s₃:Shared,s₃ = { s₂ with heap:=h₁,toks:=s₂.toks+([]:List (Str×Value)).length } →
   codeAny (model g.c.prog g.c.w) A (.compLoop (.ListComp elt [⟨tg,iter,ifs,0⟩] csc pos) 0 (.ref a) (.ref D) (compEnvC csc (Zdg env csc.names []) Ca env)) (RR' (.ref D) Ca) s₃:=by
  rintro s₃ rfl;exact Zrx Ck htg hh ev fr hm hx hc ha hD1 hC1 hDa hCa hCD hsv hxs hz step h0 ho S₄ ((ms.trans m₂).step _ _) fun acc H' s' m' h1 h2 h3 h4=>fin D Ca acc H' s' m' hC1 h1 h2 h3 h4
 refine codeAny_compStart_list (loop _ rfl) (Zwx ho ?_ (loop _ rfl));refine (S₄.res a (.obj o) ?_).2;exact rl (Zah (Ne.symm hCa)) (rl (Zah (Ne.symm hDa)) (rl Zaq rfl))
theorem Zw3 {x it:X} {c:Option X} {elt iter tg:Expr} {ifs:List Expr} {tup:Bool} {ts:List Str} {pos:Pos} (Ck:g.c.Ok mg mb) (htg:TgN tg tup ts) (ev:Ev g A R e₀ l₀) (fr:Frm R env sc nm V) (hm:Zct sc csc nm ts=true)
  (hf:∀ x,foldedSetIterable iter env x=pure x) (hit:HX g A R V s₀ it (eval iter env)) (hx:XOk g csc (Zdy nm ts++ts) x elt) (hc:Ze3 g csc (Zdy nm ts++ts) c ifs) :
  HX g A R V s₀ (.comp x ts.length tup it c) (eval (.ListComp elt [⟨tg,iter,ifs,0⟩] csc pos) env):=fun H s Q E S m q=>by
 dsimp only [Zai,Zad,Zar,Zbl,Za6,x_ao,Zbm,Zao,Za0,Zav,Zap,Zaz,Zan,Zak,x_bm,Zbh,Zau,Zbc,Zch,Zas,Za7,Za5,Zbd,Zba] at q;obtain ⟨hmd,q⟩:=q;refine rl (eval_ListComp ..) ?_;refine wpAny_comprehension_free (use:=none) rfl hf (Zlc fr hm) (Zie hm).1 (Zie hm).2.2 ?_;refine wpAny_mono (hit H s _ E S m q) (fun u s₁ z=>?_) fun _ _ z=>z;obtain ⟨av,H₁,hv,S₁,m₁,xs,hxs,hz,I,hI,hstep⟩:=z;refine Zi9 (I:=I) (RR':=fun acc Ca=>compPost (model g.c.prog g.c.w) A (TE g R s₀ E) none (TQ g R s₀ Q) acc Ca) Ck htg (ev.aok.hand hmd) ev fr hm hx hc hv S₁ m₁ hxs hz hI (fun k acc H' hi=>⟨(hstep k acc H' hi).1,(hstep k acc H' hi).2.2⟩) ?_;intro D Ca acc H' s' m' hCa hi hd S' ms';refine ⟨m',(S'.res Ca _ Zaq).2,fun h' hs'=>?_⟩;refine ⟨.ref D,up H' D (.list acc),.ref D,(S'.dropAny (Zaq) hs'.extBut (by refine rl hs'.1 ?_;exact S'.size)).weaken fun b r e=>?_,ms'.heap _,(hstep _ acc H' hi).2.1 rfl D hd⟩;have hb:b≠Ca:=fun z=>by rw [z,hCa] at e;contradiction
 refine rl (Za4 hb) (rl (Zah hb) ?_);exact e
theorem Zua {k v:X} {ke ve:Expr} {pos:Pos} (ev:Ev g A R e₀ l₀) (fr:Frm R env sc nm V) (hk:XOk g sc nm k ke) (hv:XOk g sc nm v ve):HX g A R V s₀ (.dict [k] [v]) (eval (.Dict [some ke] [ve] pos) env):=fun H s Q E S m q=>by
 dsimp only [Zai,Zad,Zar,Zbl,Za6,x_ao,Zbm,Zao,Za0,Zav,Zap,Zaz,Zan,Zak,x_bm,Zbh,Zau,Zbc,Zch,Zas,Za7,Za5,Zbd,Zba] at q;refine wpAny_Dict_walk (knd:=strKind g.c.prog g.c.w) rfl rfl (by simp) (by simp) ?_;obtain ⟨hR,hH,S₁⟩:=S.newRes (x:=s.heap.objs.size) (r:=.obj { cls:=.type "dict",data:=.dict #[] }) (h':=s.heap.push { cls:=.type "dict",data:=.dict #[] }) (le_refl _) (fun _ _ z=>Heap.get?_push_of_some _ z) (by refine rl (Heap.size_push ..) ?_;omega) (Heap.get?_push_size _ rfl);generalize s.heap.objs.size=d at hR hH S₁ ⊢;generalize s.heap.push { cls:=.type "dict",data:=.dict #[] } = h₁ at S₁ ⊢;have hle:∀ b r,R b=some r→rup R d (.obj { cls:=.type "dict",data:=.dict #[] }) b=some r:=fun b r e=>by
  refine rl (Zah (fun z=>by rw [z,hR] at e;contradiction)) ?_;exact e
 have ev':Ev g A (rup R d (.obj { cls:=.type "dict",data:=.dict #[] })) e₀ l₀:=⟨ev.aok,Zuy ev.stk hle⟩
 have fr':Frm (rup R d (.obj { cls:=.type "dict",data:=.dict #[] })) env sc nm V:=fr.congr fun b hb=>Zah fun z=>by
  rw [z] at hb;rcases hb with ⟨_,hb⟩ | ⟨_,hb⟩<;>(rw [hR] at hb;contradiction)
 have te:∀ {e:Value} {s':Shared},TE g (rup R d (.obj { cls:=.type "dict",data:=.dict #[] })) s₀ E e s'→TE g R s₀ E e s':=by
  rintro e s' ⟨a,cl,H',e1,X,ms,q⟩;exact ⟨a,cl,H',e1,X.weaken hle,ms,q⟩
 refine pairTrees_cons_walk (wpAny_mono ((hk A _ V env e₀ l₀ s₀ ev' fr').1 H _ _ E S₁ (m.heap _) q) (fun kv s₂ z=>?_) fun _ _ z=>te z);obtain ⟨ka,H₂,hka,S₂,m₂,q₂⟩:=z;refine wpAny_mono ((hv A _ V env e₀ l₀ s₀ ev' fr').1 H₂ _ _ E S₂ m₂ q₂) (fun vv s₃ z=>?_) fun _ _ z=>te z;obtain ⟨va,H₃,hva,S₃,m₃,q₃⟩:=z;refine pairTrees_nil_walk ?_;cases hka with
 | str ks tk hok =>
  dsimp only at q₃;have hd3:s₃.heap.get? d=some { cls:=.type "dict",data:=.dict #[] }:=(S₃.res d _ Zaq).2;refine ⟨[(ks,vv)],⟨?_,rfl,trivial⟩,⟨_,#[],0,hd3,⟨rfl,rfl,rfl⟩,rfl,fun _ h=>by simp at h,.nil,nodup_nil⟩,fun h' hd hs=>?_⟩
  ·exact strKind_is _ _ ks tk
  ·obtain ⟨o',es',ep,hda⟩:=hd;obtain ⟨hn,S₄⟩:=S₃.give (h':=h') (ao:=.dict ep [(ks,va)]) Zaq hs (by intro _ _ z;contradiction) fun _=>⟨[(ks,vv)],⟨o',es',hda⟩,.cons hok hva .nil⟩
   refine ⟨.ref d,_,.ref d,S₄.weaken fun b r e=>?_,m₃.step _ _,q₃ d ep hn⟩;have hb:b≠d:=fun z=>by rw [z,hR] at e;contradiction
   refine rl (Za4 hb) (rl (Zah hb) ?_);exact e
 | none=>exact q₃.elim
 | bool=>exact q₃.elim
 | int=>exact q₃.elim
 | ref=>exact q₃.elim
end
end Mine
end
section
namespace Mine
section
variable {g:Gx} {mg mb:Str→Option Value} (C:g.c.Ok mg mb) (PO:PgOk g.c)
theorem Zfd {sc:Scope} {nm:List Str} {xs:List X} {es:List Expr} {A:Around} {R:RR} {V:VV} {env:Env} {e₀:Env} {l₀:List Env} {s₀:Shared} (h:Each (fun x e=>XOk g sc nm x e∧Zc3 e=true) xs es) (ev:Ev g A R e₀ l₀) (fr:Frm R env sc nm V) :
  Zfe g A R V s₀ env xs es:=by
 induction h with
 | nil=>exact .nil
 | cons a _ ih=>exact .cons ⟨(a.1 A R V env e₀ l₀ s₀ ev fr).1,a.2⟩ ih
theorem Zuk {sc:Scope} {nm:List Str} {xs:List X} {es:List Expr} {A:Around} {R:RR} {V:VV} {env:Env} {e₀:Env} {l₀:List Env} {s₀:Shared} (h:Each (fun x e=>XOk g sc nm x e∧Zc3 e=true) xs es) (ev:Ev g A R e₀ l₀) (fr:Frm R env sc nm V) :
  Each (fun x e=>HX g A R V s₀ x (eval e env)) xs es:=by
 induction h with
 | nil=>exact .nil
 | cons a _ ih=>exact .cons (a.1 A R V env e₀ l₀ s₀ ev fr).1 ih
theorem Zuj {sc:Scope} {nm:List Str} {xs:List X} {es:List Expr} {A:Around} {R:RR} {V:VV} {env:Env} {e₀:Env} {l₀:List Env} {s₀:Shared} (h:Each (fun x e=>XOk g sc nm x e∧Zc3 e=true) xs es) (ev:Ev g A R e₀ l₀) (fr:Frm R env sc nm V) :
  Each (fun x e=>HT g A R V s₀ x (isTrue e env (eval e env))) xs es:=by
 induction h with
 | nil=>exact .nil
 | cons a _ ih=>exact .cons (a.1 A R V env e₀ l₀ s₀ ev fr).2 ih
theorem XOk.of {sc:Scope} {nm:List Str} {x:X} {e:Expr} (h:∀ (A:Around) (R:RR) (V:VV) (env:Env) (e₀:Env) (l₀:List Env) (s₀:Shared),Ev g A R e₀ l₀→Frm R env sc nm V→HX g A R V s₀ x (eval e env))
  (he:∀ env whole,isTrue e env whole=(do let v ← whole;standAt e.pos;holding [v] (truthy v))):XOk g sc nm x e:=fun A R V env e₀ l₀ s₀ ev fr =>
 ⟨h A R V env e₀ l₀ s₀ ev fr,HT.plain (h A R V env e₀ l₀ s₀ ev fr) (he _ _)⟩
theorem Zgg {iter:Expr} {env:Env} (h:Ziz iter=true) (x:Value):foldedSetIterable iter env x=pure x:=by
 cases iter<;>first | rfl | exact Bool.noConfusion h
include C PO in
mutual
theorem sX:∀ (x:X) (e:Expr) (top:Bool) (sc:Scope) (nm:List Str),mtX g.c.P top sc nm x e=true→XOk g sc nm x e
 | .lit v,e,top,sc,nm,h=>Zhy (m:=XOk g sc nm (.lit v)) h fun _ _ _ h=>.of (fun _ _ _ _ _ _ _ _ _=>Zzl h) fun _ _=>rfl
 | .var i,e,top,sc,nm,h=>Ztv (m:=XOk g sc nm (.var i)) h fun _ _ h1 h2 h3=>.of (fun _ _ _ _ _ _ _ _ fr=>Zzg fr h1 h2 h3) fun _ _=>rfl
 | .glob n,e,top,sc,nm,h=>Znd (m:=XOk g sc nm (.glob n)) h fun _ _ h=>.of (fun _ _ _ _ _ _ _ _ fr=>Zw2 C PO fr h) fun _ _=>rfl
 | .bin op a b,e,top,sc,nm,h=>Zt2 (m:=XOk g sc nm (.bin op a b)) h fun l r p h1 h2 =>
  .of (fun A R V env e₀ l₀ s₀ ev fr=>Zzq C ev (sX a l top sc nm h1 A R V env e₀ l₀ s₀ ev fr).1 (sX b r top sc nm h2 A R V env e₀ l₀ s₀ ev fr).1) fun _ _=>rfl
 | .neg a,e,top,sc,nm,h=>Zty (m:=XOk g sc nm (.neg a)) h fun l p h=>.of (fun A R V env e₀ l₀ s₀ ev fr=>Zzk (sX a l top sc nm h A R V env e₀ l₀ s₀ ev fr).1) fun _ _=>rfl
 | .not a,e,top,sc,nm,h=>Ztx (m:=XOk g sc nm (.not a)) h fun l p h A R V env e₀ l₀ s₀ ev fr=>have z:=sX a l top sc nm h A R V env e₀ l₀ s₀ ev fr;⟨Zzi z.1,Zzr z.2⟩
 | .ao isAnd xs,e,top,sc,nm,h=>Zws (m:=XOk g sc nm (.ao isAnd xs)) h fun vs p h A R V env e₀ l₀ s₀ ev fr=>have z:=sXs xs vs top sc nm h;⟨Z1d (Zuk z ev fr),Z1e (Zuj z ev fr)⟩
 | .ite c a b,e,top,sc,nm,h=>Ztz (m:=XOk g sc nm (.ite c a b)) h fun t x y p h1 h2 h3 A R V env e₀ l₀ s₀ ev fr =>
  have z1:=sX c t top sc nm h1 A R V env e₀ l₀ s₀ ev fr;have z2:=sX a x top sc nm h2 A R V env e₀ l₀ s₀ ev fr;have z3:=sX b y top sc nm h3 A R V env e₀ l₀ s₀ ev fr;⟨Zzm z1.2 z2.1 z3.1,Zzs z1.2 z2.2 z3.2⟩
 | .cmp op a b,e,top,sc,nm,h=>Zt1 (m:=XOk g sc nm (.cmp op a b)) h fun l r p h0 h1 h2 A R V env e₀ l₀ s₀ ev fr =>
  have z1:=sX a l top sc nm h1 A R V env e₀ l₀ s₀ ev fr;have z2:=sX b r top sc nm h2 A R V env e₀ l₀ s₀ ev fr;⟨Zzp C ev h0 z1.1 z2.1,Zzt C ev h0 z1.1 z2.1⟩
 | .cmp2 op₁ op₂ a b d,e,top,sc,nm,h=>Zqz (m:=XOk g sc nm (.cmp2 op₁ op₂ a b d)) h fun l r₁ r₂ p h0 h1 h2 h3 A R V env e₀ l₀ s₀ ev fr =>
  have z1:=sX a l top sc nm h1 A R V env e₀ l₀ s₀ ev fr;have z2:=sX b r₁ top sc nm h2 A R V env e₀ l₀ s₀ ev fr;have z3:=sX d r₂ top sc nm h3 A R V env e₀ l₀ s₀ ev fr;⟨Zw4 C ev h0 z1.1 z2.1 z3.1,Zw7 C ev h0 z1.1 z2.1 z3.1⟩
 | .sub a i,e,top,sc,nm,h=>Zng (m:=XOk g sc nm (.sub a i)) h fun v sl p h0 h1 h2 =>
  .of (fun A R V env e₀ l₀ s₀ ev fr=>Zzh C h0 (sX a v top sc nm h1 A R V env e₀ l₀ s₀ ev fr).1 (sX i sl top sc nm h2 A R V env e₀ l₀ s₀ ev fr).1) fun _ _=>rfl
 | .slice a lo hi st,e,top,sc,nm,h=>Zoo (m:=XOk g sc nm (.slice a lo hi st)) h fun v l u t p q h0 h1 h2 h3 =>
  .of (fun A R V env e₀ l₀ s₀ ev fr=>Zt9 (sX a v top sc nm h0 A R V env e₀ l₀ s₀ ev fr).1 (sO lo l top sc nm h1 A R V env e₀ l₀ s₀ ev fr) (sO hi u top sc nm h2 A R V env e₀ l₀ s₀ ev fr) (sO st t top sc nm h3 A R V env e₀ l₀ s₀ ev fr)) fun _ _=>rfl
 | .attr a n,e,top,sc,nm,h=>Zq1 (m:=XOk g sc nm (.attr a n)) h fun v p h1 h2=>.of (fun A R V env e₀ l₀ s₀ ev fr=>Zw6 C PO h1 (sX a v top sc nm h2 A R V env e₀ l₀ s₀ ev fr).1) fun _ _=>rfl
 | .call f xs,e,top,sc,nm,h=>Zft (m:=XOk g sc nm (.call f xs)) h fun fe as p h0 h1 h2=>.of (fun _ _ _ _ _ _ _ ev fr=>Zw5 C PO ev fr h0 h1 (Zfd (sXs xs as top sc nm h2) ev fr)) fun _ _=>rfl
 | .new f xs,e,top,sc,nm,h=>Zft (m:=XOk g sc nm (.new f xs)) h fun fe as p h0 h1 h2=>.of (fun _ _ _ _ _ _ _ ev fr=>Zzj C PO ev fr h0 h1 (Zfd (sXs xs as top sc nm h2) ev fr)) fun _ _=>rfl
 | .meth a m xs,e,top,sc,nm,h=>Zkt (m:=XOk g sc nm (.meth a m xs)) h fun o _ as _ h1 h2 h3 h4 h5=>.of (fun A R V env e₀ l₀ s₀ ev fr=>Zw0 C PO ev h2 h1 h3 (sX a o top sc nm h4 A R V env e₀ l₀ s₀ ev fr).1 (Zfd (sXs xs as top sc nm h5) ev fr)) fun _ _=>rfl
 | .bm a m xs,e,top,sc,nm,h=>Zkt (m:=XOk g sc nm (.bm a m xs)) h fun o _ as _ h1 h2 h3 h4 h5=>.of (fun A R V env e₀ l₀ s₀ ev fr=>Z1c C ev h2 h1 h3 (sX a o top sc nm h4 A R V env e₀ l₀ s₀ ev fr).1 (Zfd (sXs xs as top sc nm h5) ev fr)) fun _ _=>rfl
 | .prim f xs,e,top,sc,nm,h=>Zft (m:=XOk g sc nm (.prim f xs)) h fun fe as p h0 h1 h2=>.of (fun _ _ _ _ _ _ _ ev fr=>Zwz C PO ev fr h0 h1 (Zfd (sXs xs as top sc nm h2) ev fr)) fun _ _=>rfl
 | .isinst a ty,e,top,sc,nm,h=>Zt0 (m:=XOk g sc nm (.isinst a ty)) h fun fe x t p hs h0 h1 h2 h3 h4=>.of (fun A R V env e₀ l₀ s₀ ev fr=>Zrd C PO fr h0 h1 h2 h3 (sX a x top sc nm h4 A R V env e₀ l₀ s₀ ev fr).1 hs) fun _ _=>rfl
 | .list xs,e,top,sc,nm,h=>Zqy (m:=XOk g sc nm (.list xs)) h fun es p h1 h2=>.of (fun _ _ _ _ _ _ _ ev fr=>Zw1 (Zfd (sXs xs es top sc nm h1) ev fr) h2) fun _ _=>rfl
 | .tuple xs,e,top,sc,nm,h=>Ztw (m:=XOk g sc nm (.tuple xs)) h fun es k p h1 h2=>.of (fun _ _ _ _ _ _ _ ev fr=>Zt8 (Zfd (sXs xs es top sc nm h1) ev fr) h2) fun _ _=>rfl
 | .dict ks vs,e,top,sc,nm,h=>match ks,vs,h with
  | [],[],h=>Zoq (m:=XOk g sc nm (.dict [] [])) h fun _=>.of (fun _ _ _ _ _ _ _ _ _=>Zub) fun _ _=>rfl
  | [k],[v],h=>Zop (m:=XOk g sc nm (.dict [k] [v])) h fun ks' vs' p h1 h2 =>
   Zdq (m:=fun ks'=>XOk g sc nm (.dict [k] [v]) (.Dict ks' vs' p)) h1 fun o r h1=>Zca (m:=fun r=>XOk g sc nm (.dict [k] [v]) (.Dict (o::r) vs' p)) (and2 h1).2
    (Zew (m:=fun o=>XOk g sc nm (.dict [k] [v]) (.Dict [o] vs' p)) (and2 h1).1 fun a ha =>
    Zdq (m:=fun vs'=>XOk g sc nm (.dict [k] [v]) (.Dict [some a] vs' p)) h2 fun b r h2=>Zca (m:=fun r=>XOk g sc nm (.dict [k] [v]) (.Dict [some a] (b::r) p)) (and2 h2).2
    (.of (fun _ _ _ _ _ _ _ ev fr=>Zua ev fr (sX k a top sc nm ha) (sX v b top sc nm (and2 (and2 h2).1).1)) fun _ _=>rfl))
  | [],_::_,h=>Zdj (m:=XOk g sc nm _) h fun _ _ _ h=>Bool.noConfusion h
  | [_],[],h=>Zdj (m:=XOk g sc nm _) h fun _ _ _ h=>Bool.noConfusion h
  | [_],_::_::_,h=>Zdj (m:=XOk g sc nm _) h fun _ _ _ h=>Bool.noConfusion h
  | _::_::_,_,h=>Zdj (m:=XOk g sc nm _) h fun _ _ _ h=>Bool.noConfusion h
 | .comp x k tup it c,e,top,sc,nm,h=>Zku (m:=XOk g sc nm (.comp x k tup it c)) h fun elt tg iter ifs csc ts p htg o =>
  .of (fun A R V env e₀ l₀ s₀ ev fr=>o.len▸Zw3 C htg ev fr o.sc (Zgg o.set) (sX it iter top sc nm o.it A R V env e₀ l₀ s₀ ev fr).1 (sX x elt false _ _ o.x) (sC c ifs _ _ o.c)) fun _ _=>rfl
theorem sC:∀ (c:Option X) (es:List Expr) (sc:Scope) (nm:List Str),mtC g.c.P sc nm c es=true→Ze3 g sc nm c es
 | none,es,sc,nm,h=>Zca (m:=Ze3 g sc nm none) h .nil
 | some x,es,sc,nm,h=>Ze8 (m:=Ze3 g sc nm (some x)) h fun e h=>.one (sX x e false sc nm h)
theorem sXs:∀ (xs:List X) (es:List Expr) (top:Bool) (sc:Scope) (nm:List Str),mtXs g.c.P top sc nm xs es=true→Each (fun x e=>XOk g sc nm x e∧Zc3 e=true) xs es
 | [],es,top,sc,nm,h=>Zca (m:=Each (fun x e=>XOk g sc nm x e∧Zc3 e=true) []) h .nil
 | x::r,es,top,sc,nm,h=>Zdq (m:=Each (fun x e=>XOk g sc nm x e∧Zc3 e=true) (x::r)) h fun e q h=>.cons ⟨sX x e top sc nm (and2 (and2 h).1).1,(and2 (and2 h).1).2⟩ (sXs r q top sc nm (and2 h).2)
theorem sO:∀ (o:Option X) (e:Option Expr) (top:Bool) (sc:Scope) (nm:List Str),mtO g.c.P top sc nm o e=true →
  ∀ (A:Around) (R:RR) (V:VV) (env:Env) (e₀:Env) (l₀:List Env) (s₀:Shared),Ev g A R e₀ l₀→Frm R env sc nm V→HO g A R V s₀ env o e
 | none,none,top,sc,nm,h=>fun _ _ _ _ _ _ _ _ _=>trivial
 | none,some _,top,sc,nm,h=>Bool.noConfusion h
 | some x,none,top,sc,nm,h=>Bool.noConfusion h
 | some x,some e,top,sc,nm,h=>fun A R V env e₀ l₀ s₀ ev fr=>(sX x e top sc nm h A R V env e₀ l₀ s₀ ev fr).1
end
end
end Mine
end
section
namespace Mine
section
variable {g:Gx} {sc:Scope} {nm:List Str} {mg mb:Str→Option Value}
abbrev XMd (g:Gx) (sc:Scope) (nm:List Str) (x:X) (e:Expr):Prop:=∀ md,XOk { g with md:=md } sc nm x e
theorem Zff {md:Bool} {R:RR} {env:Env} {V:VV} {s₀ s':Shared} {E:String→VV→Zaa→Prop} {e:Value} (fr:Frm R env sc nm V) (h:TE { g with md:=md } R s₀ (fun cl H=>E cl V H) e s'):TX g env sc nm R s₀ E e s':=by
 obtain ⟨a,cl,H',rfl,x,m,q⟩:=h;exact ⟨a,cl,R,V,H',.none,rfl,.refl,fr,.inr (.inl rfl),x,m,q⟩
theorem TF.trans {R R':RR} {env:Env} {s₀ s':Shared} {QN:VV→Zaa→Prop} {QR:AV→Zaa→Prop} {f:Flow} (x:RStep env R R') (h:TF g env sc nm R' s₀ QN QR f s'):TF g env sc nm R s₀ QN QR f s':=by
 cases f with
 | next=>obtain ⟨R2,V',H',r,k1,k2,k3,k4⟩:=h;exact ⟨R2,V',H',x.trans r,k1,k2,k3,k4⟩
 | ret v=>obtain ⟨R2,V',H',r,k1,k2,k3,k4⟩:=h;exact ⟨R2,V',H',x.trans r,k1,k2,k3,k4⟩
 | brk=>exact h
 | cont=>exact h
theorem TX.trans {R R':RR} {env:Env} {s₀ s':Shared} {E:String→VV→Zaa→Prop} {e:Value} (x:RStep env R R') (h:TX g env sc nm R' s₀ E e s'):TX g env sc nm R s₀ E e s':=by
 obtain ⟨a,cl,R2,V',H',fl,h1,r,k1,k2,k3,k4,k5⟩:=h;exact ⟨a,cl,R2,V',H',fl,h1,x.trans r,k1,k2,k3,k4,k5⟩
theorem Zph {v o ix:Expr} {p:Pos} {l:Nat} {env:Env}:swapsWith v (some (.Subscript o ix p)) l env=pure false:=by
 cases v<;>rfl
theorem Zhf {v:Expr} {t:Option Expr} {l:Nat} {env:Env} (h:Ze9 v=true):swapsWith v t l env=pure false:=by
 cases v<;>first | rfl | exact Bool.noConfusion h
theorem Z0w {e:X} {v:Expr} {pos:Pos} (hx:XMd g sc nm e v):SOk g sc nm (fun g=>wpS g (.ret e)) (exec (.Return (some v) pos)):=fun md A env l₀ R V s₀ s H QN QR E ev fr S m q=>by
 dsimp only [Zay,Zbq,Zam,Zax,Za3,Zb3,Zb0,Zda,Zcx] at q;refine wpAny_Return_some (wpAny_mono ((hx md A R V env env l₀ s₀ ev fr).1 H s _ _ S m q) (fun u s' z=>?_) fun _ _ z=>Zff fr z);obtain ⟨av,H',hv,S',m',q'⟩:=z;exact ⟨R,av,H',.refl,hv,S',m',q'⟩
theorem Zya {pos:Pos}:SOk g sc nm (fun g=>wpS g .pass) (exec (.Pass pos)):=fun md A env l₀ R V s₀ s H QN QR E ev fr S m q=>by
 dsimp only [Zay,Zbq,Zam,Zax,Za3,Zb3,Zb0,Zda,Zcx] at q;exact wpAny_Pass ⟨R,V,H,.refl,fr,S,m,q⟩
theorem Zyc {e:X} {v:Expr} {pos:Pos} (hn:Ze9 v=true) (hx:XMd g sc nm e v):SOk g sc nm (fun g=>wpS g (.expr e)) (exec (.Expr v pos)):=fun md A env l₀ R V s₀ s H QN QR E ev fr S m q=>by
 dsimp only [Zay,Zbq,Zam,Zax,Za3,Zb3,Zb0,Zda,Zcx] at q;refine wpAny_Expr_any (wpAny_mono ((hx md A R V env env l₀ s₀ ev fr).1 H s _ _ S m q) (fun u s' z=>?_) fun _ _ z=>Zff fr z) (by unfold interactive;refine rl fr.kind ?_;rfl) (Zhf hn);obtain ⟨av,H',hv,S',m',q'⟩:=z;exact ⟨R,V,H',.refl,fr,S',m',q'⟩
theorem Zmx {i:Nat} {is:List Nat} {es:List Expr} (h:Zig sc nm (i::is) es=true):∃ id p r,es = .Name id p::r∧nm[i]? = some id∧Zee sc id=true∧Zig sc nm is r=true :=
 Zdq (m:=fun es=>∃ id p r,es = .Name id p::r∧nm[i]? = some id∧Zee sc id=true∧Zig sc nm is r=true) h fun e r h =>
  Zhe (m:=fun e=>∃ id p r',e::r = .Name id p::r'∧nm[i]? = some id∧Zee sc id=true∧Zig sc nm is r'=true) (and2 h).1 fun id p h1 h2=>⟨id,p,r,rfl,h1,h2,(and2 h).2⟩
theorem Zsr {env:Env} {is:List Nat} {es:List Expr} (h:Zig sc nm is es=true):(assignEach es env).length=is.length∧(assignEach es env).findIdx? (·.1)=none:=by
 induction is generalizing es with
 | nil =>
  have:es=[]:=by cases es with | nil=>rfl | cons=>contradiction
  subst this;exact ⟨rfl,rfl⟩
 | cons i is ih =>
  obtain ⟨id,p,r,rfl,_,_,h4⟩:=Zmx h;obtain ⟨i1,i2⟩:=ih h4;exact ⟨congrArg Nat.succ i1,by show List.findIdx? _ ((false,_)::assignEach r env)=none;refine rl (List.findIdx?_cons) (rl i2 ?_);rfl⟩
set_option tactic.hygienic true in
theorem Zsz {c:Cx} {H:Zaa} {A:Around} {E:Value→Shared→Prop} {env:Env} {Q:Unit→Shared→Prop} (nd:nm.Nodup) {is:List Nat} {es:List Expr} {xs:List AV} {vs:List Value} {R:RR} {V:VV} {s:Shared} (h:Zig sc nm is es=true) (hv:VRs xs vs) (hl:xs.length=is.length)
  (fr:Frm R env sc nm V) (S:St c R H s.heap) (q:∀ s' R',RStep env R R'→Frm R' env sc nm (Ziq V is xs)→St c R' H s'.heap→Sm s s'→Q () s'):wpAny (model c.prog c.w) A (assignInOrder ((assignEach es env).map (·.2)) vs) Q E s:=by
 induction is generalizing es xs vs R V s with
 | nil =>
  have:es=[]:=by cases es with | nil=>rfl | cons=>contradiction
  subst this;cases hv with
  | nil=>exact wpAny_pure (q s R .refl fr S ⟨_,_,rfl⟩)
  | cons=>cases hl
 | cons i is ih =>
  obtain ⟨id,p,r,rfl,h2,h3,h4⟩:=Zmx h;cases hv with
  | nil=>cases hl
  | cons hv1 hvr =>
  rename_i y v ys' vs';show wpAny _ A (do holding vs' (assign (.Name id p) env v);assignInOrder ((assignEach r env).map (·.2)) vs') Q E s;refine wpAny_bind (wpAny_holding (wpAny_assign_Name (Zhk fr nd h2 h3 hv1 S fun s₁ R1 r₁ f₁ S₁ m₁=>?_)));exact ih h4 hvr (Nat.succ.inj hl) f₁ S₁ fun s' R' r' f' S' m'=>q s' R' (r₁.trans r') f' S' (m₁.trans m')
theorem Zpd {is:List Nat} {e:Expr} (h:Zpe sc nm is e=true):∃ es k p,e = .Tuple es k p∧Zig sc nm is es=true :=
 Zhx (m:=fun e=>∃ es k p,e = .Tuple es k p∧Zig sc nm is es=true) h fun es k p h=>⟨es,k,p,rfl,h⟩
set_option tactic.hygienic true in
theorem Z0j {k:Nat} {y:AV} {H:Zaa} {P:List AV→Prop} (hw:Zb7 k y H P):∃ p xs,y = .ref p∧(H p=some (.tuple xs)∨H p=some (.list xs))∧xs.length=k∧P xs:=by
 cases y with
 | ref p =>
  simp only [Zb7] at hw;split at hw
  ·rename_i xs e;exact ⟨p,xs,rfl,.inl e,hw⟩
  ·rename_i xs e;exact ⟨p,xs,rfl,.inr e,hw⟩
  ·exact hw.elim
 | _=>exact hw.elim
theorem Zu0 {c:Cx} {H:Zaa} {A:Around} {E:Value→Shared→Prop} {env:Env} {Q:Unit→Shared→Prop} {mg mb:Str→Option Value} {is:List Nat} {e:Expr} {x:AV} {u:Value} {R:RR} {V:VV} {s:Shared} {P:List AV→Prop} (C:c.Ok mg mb) (hh:A.handled=none) (nd:nm.Nodup) (h:Zpe sc nm is e=true) (hv:VR x u)
  (hw:Zb7 is.length x H P) (fr:Frm R env sc nm V) (S:St c R H s.heap) (q:∀ s' R' xs,P xs→RStep env R R'→Frm R' env sc nm (Ziq V is xs)→St c R' H s'.heap→Sm s s'→Q () s'):wpAny (model c.prog c.w) A (assign e env u) Q E s:=by
 obtain ⟨es,k,pp,rfl,h⟩:=Zpd h;obtain ⟨p,xs,rfl,hx,hl,hP⟩:=Z0j hw;cases hv;obtain ⟨l1,l2⟩:=Zsr (env:=env) h;obtain ⟨mL,hL,_⟩:=fr.ns;refine rl (assign_Tuple ..) ?_;unfold unpack;refine rl l1 (rl l2 (rl hl.symm ?_));refine wpAny_bind (wpAny_standAt (wpAny_bind (wpAny_holding (Zj7 C hh hL S hx fun s₁ vs hvs S₁ m₁=>?_))));exact Zsz nd h hvs hl fr S₁ fun s' R' r' f' S' m'=>q s' R' xs hP r' f' S' (m₁.trans m')
theorem Z0o {c:Cx} {H:Zaa} {A:Around} {E:Value→Shared→Prop} {env:Env} {Q:Unit→Shared→Prop} {mg mb:Str→Option Value} {t:Tg} {e:Expr} {x:AV} {u:Value} {R:RR} {V:VV} {s:Shared} {P:VV→Prop} (C:c.Ok mg mb) (hh:A.handled=none) (nd:nm.Nodup) (h:tgOk sc nm t e=true) (hv:VR x u)
  (hw:wtg t x V H P) (fr:Frm R env sc nm V) (S:St c R H s.heap) (q:∀ s' R' V',P V'→RStep env R R'→Frm R' env sc nm V'→St c R' H s'.heap→Sm s s'→Q () s'):wpAny (model c.prog c.w) A (assign e env u) Q E s:=by
 cases t with
 | var i =>
  exact Zhe (m:=fun e=>wpAny (model c.prog c.w) A (assign e env u) Q E s) h fun _ _ h1 h2=>wpAny_assign_Name (Zhk fr nd h1 h2 hv S fun s' R' r' f' S' m'=>q s' R' _ hw.2 r' f' S' m')
 | tup is=>exact Zu0 C hh nd h hv hw fr S fun s' R' xs hP r' f' S' m'=>q s' R' _ hP r' f' S' m'
theorem Zpg {v:Expr} {es:List Expr} {k p} {l:Nat} {env:Env}:swapsWithSole [.Tuple es k p] v l env=pure false:=by
 show swapsWith v (some (.Tuple es k p)) l env=pure false;cases v<;>rfl
theorem Zn3 {v:Expr} {es:List Expr} {k p} {env:Env} (h:Zkr v=true):swappedStores [.Tuple es k p] v env=pure none:=by
 cases v<;>first | rfl | exact Bool.noConfusion h
theorem Zn6 {is:List Nat} {e:X} {tg v:Expr} {pos:Pos} (C:g.c.Ok mg mb) (nd:nm.Nodup) (hn:Zkr v=true) (ht:Zpe sc nm is tg=true) (hx:XMd g sc nm e v):SOk g sc nm (fun g=>wpS g (.assign (.tup is) e)) (exec (.Assign [tg] v pos)) :=
 fun md A env l₀ R V s₀ s H QN QR E ev fr S m q=>by
 dsimp only [Zay,Zbq,Zam,Zax,Za3,Zb3,Zb0,Zda,Zcx,tv,tsub,tattr,ttup] at q;obtain ⟨es,k,pp,rfl,_⟩:=Zpd ht;refine Assign_Tuple (wpAny_mono ((hx md A R V env env l₀ s₀ ev fr).1 H s _ _ S m q) (fun u s₁ z=>?_) fun _ _ z=>Zff fr z) Zpg (Zn3 hn);obtain ⟨av,H',hv,S',m',hmd,q'⟩:=z;exact Zu0 C (ev.aok.hand hmd) nd ht hv q' fr S' fun s₂ R' xs hP r' f' S₂ m₂=>⟨R',_,H',r',f',S₂,m'.trans m₂,hP⟩
theorem Zn5 {i:Nat} {e:X} {tg v:Expr} {pos:Pos} (nd:nm.Nodup) (hn:Ze9 v=true) (ht:Zn1 sc nm i tg=true) (hx:XMd g sc nm e v):SOk g sc nm (fun g=>wpS g (.assign (.var i) e)) (exec (.Assign [tg] v pos)) :=
 fun md A env l₀ R V s₀ s H QN QR E ev fr S m q=>by
 dsimp only [Zay,Zbq,Zam,Zax,Za3,Zb3,Zb0,Zda,Zcx,tv,tsub,tattr,ttup] at q;refine Zhe (m:=fun tg=>wpAny (model g.c.prog g.c.w) A (exec (.Assign [tg] v pos) env) (TF g env sc nm R s₀ QN QR) (TX g env sc nm R s₀ E) s) ht fun id p h1 h2=>?_;refine wpAny_Assign_Name (wpAny_mono ((hx md A R V env env l₀ s₀ ev fr).1 H s _ _ S m q) (fun u s₁ z=>?_) fun _ _ z=>Zff fr z) (Zhf hn);obtain ⟨av,H',hv,S',m',_,q'⟩:=z;exact Zhk fr nd h1 h2 hv S' fun s₂ R' r f' S₂ m₂=>⟨R',_,H',r,f',S₂,m'.trans m₂,q'⟩
theorem Frm.drop {R R':RR} {env:Env} {V V':VV} {Ca:Addr} (f:Frm R' env sc nm V') (fr:Frm R env sc nm V) (hCa:R Ca=none):Frm (Zco R' Ca) env sc nm V':=by
 obtain ⟨k1,k2,k3,k4,k5,k6,k7,kc,kl,k8,⟨m,n1,n2⟩,k9⟩:=f;obtain ⟨m',n1',_⟩:=fr.ns;refine ⟨k1,k2,k3,k4,k5,k6,k7,kc,kl,k8,⟨m,by refine rl (Za4 (fun z=>by rw [z,hCa] at n1';contradiction)) ?_;exact n1,n2⟩,fun i n hn hk=>?_⟩;obtain ⟨a,x,v,c1,c2,c3⟩:=k9 i n hn hk;obtain ⟨a',x',v',c1',c2',c3'⟩:=fr.cell i n hn hk;rw [c1] at c1';obtain rfl:=osi c1';exact ⟨a,x,v,c1,by refine rl (Za4 (fun z=>by rw [z,hCa] at c2';contradiction)) ?_;exact c2,c3⟩
theorem RStep.drop {env:Env} {R R':RR} {a:Addr} (x:RStep env R R'):RStep env (Zco R a) (Zco R' a):=fun b=>by
 by_cases z:b=a
 ·subst z;left;exact rl Zce (rl Zce rfl)
 ·refine rl (Za4 z) (rl (Za4 z) ?_);exact x b
theorem Zlt {i:Nat} {x it:X} {c:Option X} {tg ctg elt iter:Expr} {ifs:List Expr} {tup:Bool} {ts:List Str} {csc:Scope} {pos spos:Pos} (C:g.c.Ok mg mb) (htg:TgN ctg tup ts) (nd:nm.Nodup) (ht:Zn1 sc nm i tg=true) (hm:Zct sc csc nm ts=true)
  (hf:Ziz iter=true) (hit:XMd g sc nm it iter) (hx:∀ md,XOk { g with md:=md } csc (Zdy nm ts++ts) x elt) (hc:∀ md,Ze3 { g with md:=md } csc (Zdy nm ts++ts) c ifs)
  (hcm:XMd g sc nm (.comp x ts.length tup it c) (.ListComp elt [⟨ctg,iter,ifs,0⟩] csc pos)):SOk g sc nm (fun g=>wpS g (.assign (.var i) (.comp x ts.length tup it c))) (exec (.Assign [tg] (.ListComp elt [⟨ctg,iter,ifs,0⟩] csc pos) spos)) :=
 fun md A env l₀ R V s₀ s H QN QR E ev fr S m q=>by
 dsimp only [Zay,Zbq,Zam,Zax,Za3,Zb3,Zb0,Zda,Zcx,tv,tsub,tattr,ttup] at q;refine Zhe (m:=fun tg=>wpAny (model g.c.prog g.c.w) A (exec (.Assign [tg] (.ListComp elt [⟨ctg,iter,ifs,0⟩] csc pos) spos) env) (TF g env sc nm R s₀ QN QR) (TX g env sc nm R s₀ E) s) ht fun id p h1 h2=>?_;obtain ⟨b,hsw⟩:∃ b,swapsWith (.ListComp elt [⟨ctg,iter,ifs,0⟩] csc pos) (some (.Name id p)) spos.line env=pure b:=⟨_,rfl⟩
 cases b with
 | false =>
  refine wpAny_Assign_Name (wpAny_mono ((hcm md A R V env env l₀ s₀ ev fr).1 H s _ _ S m q) (fun u s₁ z=>?_) fun _ _ z=>Zff fr z) hsw;obtain ⟨av,H',hv,S',m',_,q'⟩:=z;exact Zhk fr nd h1 h2 hv S' fun s₂ R' r f' S₂ m₂=>⟨R',_,H',r,f',S₂,m'.trans m₂,q'⟩
 | true =>
  dsimp only [Zai,Zad,Zar,Zbl,Za6,x_ao,Zbm,Zao,Za0,Zav,Zap,Zaz,Zan,Zak,x_bm,Zbh,Zau,Zbc,Zch,Zas,Za7,Za5,Zbd,Zba] at q;obtain ⟨hmd,q⟩:=q;refine rl (exec_Assign_Name_used _ _ _ _ hsw) ?_;refine wpAny_bind (wpAny_standAt (wpAny_bind ?_));show wpAny _ A (do let _ ← comprehension (.ListComp elt [⟨ctg,iter,ifs,0⟩] csc pos) csc env _ (newList []) false (eval iter env) (some (assign (.Name id p) env))) _ _ s;refine wpAny_bind (wpAny_mono (wpAny_comprehension_free (use:=some (assign (.Name id p) env)) (Q:=fun _ s'=>TF g env sc nm R s₀ QN QR .next s') rfl (Zgg hf) (Zlc fr hm) (Zie hm).1 (Zie hm).2.2 ?_)
   (fun _ s' hq=>wpAny_pure (wpAny_pure hq)) fun _ _ e=>e)
  refine wpAny_mono ((hit md A R V env env l₀ s₀ ev fr).1 H s _ (fun cl H=>E cl V H) S m q) (fun u s₁ z=>?_) fun _ _ z=>Zff fr z;obtain ⟨av,H₁,hv,S₁,m₁,xs,hxs,hz,I,hI,hstep⟩:=z;refine Zi9 (g:={ g with md:=md }) (I:=I) (RR':=fun acc Ca=>compPost (model g.c.prog g.c.w) A (TX g env sc nm R s₀ E) (some (assign (.Name id p) env)) (fun _ s'=>TF g env sc nm R s₀ QN QR .next s') acc Ca) C htg (ev.aok.hand hmd) ev fr hm (hx md) (hc md) hv S₁ m₁ hxs hz hI (fun k acc H' hi=>⟨(hstep k acc H' hi).1,(hstep k acc H' hi).2.2⟩) ?_;intro D Ca acc H' s' m' hCa hi hd S' ms';have f₁:Frm (rup R Ca (.ns m')) env sc nm V:=fr.congr fun b hb=>Zah fun z=>by
   rw [z] at hb;rcases hb with ⟨_,hb⟩ | ⟨_,hb⟩<;>(rw [hCa] at hb;contradiction)
  show wpAny _ A (assign (.Name id p) env (.ref D)) _ _ _;refine wpAny_assign_Name (Zhk f₁ nd h1 h2 (.ref D) S' fun s₂ R' r f' S₂ m₂=>?_);obtain ⟨m'',hm''⟩:=r.ns Zaq;refine ⟨m'',(S₂.res Ca _ hm'').2,fun h' hs'=>?_⟩;have hRR:Zco (rup R Ca (.ns m')) Ca=R:=by
   funext b
   by_cases z:b=Ca
   ·subst z;exact rl Zce (rl hCa rfl)
   ·exact rl (Za4 z) (rl (Zah z) rfl)
  have rd:=r.drop (a:=Ca);rw [hRR] at rd;exact ⟨Zco R' Ca,_,_,rd,f'.drop fr hCa,S₂.dropAny hm'' hs'.extBut (by refine rl hs'.1 ?_;exact S₂.size),(ms'.trans m₂).heap _,((hstep _ acc H' hi).2.1 rfl D hd).2⟩
theorem s_if {c:X} {a b:List S} {t:Expr} {x y:List Stmt} {pos:Pos} (hc:XMd g sc nm c t) (ha:SOk g sc nm (fun g=>wpSs g a) (execs x)) (hb:SOk g sc nm (fun g=>wpSs g b) (execs y)) :
  SOk g sc nm (fun g=>wpS g (.ite c a b)) (exec (.If t x y pos)):=fun md A env l₀ R V s₀ s H QN QR E ev fr S m q=>by
 dsimp only [Zay,Zbq,Zam,Zax,Za3,Zb3,Zb0,Zda,Zcx] at q;refine wpAny_If (wpAny_mono ((hc md A R V env env l₀ s₀ ev fr).2 H s (fun _ t H=>if t then wpSs { g with md:=md } a QN QR E V H else wpSs { g with md:=md } b QN QR E V H) (fun cl H=>E cl V H) S m q) (fun u s' z=>?_) fun _ _ z=>Zff fr z);obtain ⟨v,H',S',m',q',_⟩:=z;cases u with
 | true=>exact ha md A env l₀ R V s₀ s' H' QN QR E ev fr S' m' (by simpa using q')
 | false=>exact hb md A env l₀ R V s₀ s' H' QN QR E ev fr S' m' (by simpa using q')
theorem Zx4:SOk g sc nm (fun g=>wpSs g []) (execs []):=fun md A env l₀ R V s₀ s H QN QR E ev fr S m q=>by
 dsimp only [Zby,Zaw] at q;exact wpAny_execs_nil ⟨R,V,H,.refl,fr,S,m,q⟩
theorem Zv3 {st:S} {r:List S} {t:Stmt} {u:List Stmt} (h:SOk g sc nm (fun g=>wpS g st) (exec t)) (hr:SOk g sc nm (fun g=>wpSs g r) (execs u)):SOk g sc nm (fun g=>wpSs g (st::r)) (execs (t::u)) :=
 fun md A env l₀ R V s₀ s H QN QR E ev fr S m q=>by
 dsimp only [Zby,Zaw] at q;refine wpAny_execs_cons (wpAny_mono (h md A env l₀ R V s₀ s H _ QR E ev fr S m q) (fun f s' z=>?_) fun _ _ z=>z);cases f with
 | next =>
  obtain ⟨R',V',H',r',f',S',m',q'⟩:=z;exact wpAny_mono (hr md A env l₀ R' V' s₀ s' H' QN QR E (ev.step r') f' S' m' q') (fun _ _ z=>z.trans r') fun _ _ z=>z.trans r'
 | ret v=>exact z
 | brk=>exact z
 | cont=>exact z
set_option tactic.hygienic true in
theorem Zr2 {M:Model} {A:Around} {env:Env} {R:RR} {H:Zaa} {a:Addr} {cl:String} {s:Shared} {E:Value→Shared→Prop} (hf:env.frame=some env.locals) (X:ExcSt g.c R H a cl (rawInt env.locals) s.heap)
  (q:∀ h',ExcSt g.c R H a cl (rawInt env.locals) h'→E (.ref a) { s with heap:=h' }):cameBackBy M A env E (.ref a) s:=by
 unfold cameBackBy;have X':=X;obtain ⟨H₁,⟨st,re,he,be,ob,kn⟩,_⟩:=X';cases ob with
 | traced h1 h2 h3 h4 h5 h6 h7 h8 h9 h10 h11 h12 h13 =>
  rename_i oe vs T oT ts a0;refine wpAny_bind (wpAny_field h1 h3 h5 ?_);refine rl (if_neg (show ¬ ((Value.ref T==Value.none)=true) from by simp)) ?_;refine rl hf ?_;exact Zgh X (by simp [rawInt]) fun h' X₂=>q h' X₂
theorem Zgd {md:Bool} {A:Around} {env:Env} {l₀:List Env} {R:RR} {s₀ s:Shared} {E:String→VV→Zaa→Prop} {e:Value} {M:Model} (ev:Ev { g with md:=md } A R env l₀) (h:TX g env sc nm R s₀ E e s) :
  notedBy M A env (fun e s'=>cameBackBy M A env (TX g env sc nm R s₀ E) e s') e s:=by
 obtain ⟨a,cl,R',V',H',fl,rfl,r,fr,hfl,X,m,q⟩:=h;refine Znu ev.aok.frames (r.stk ev.stk) X hfl fun h₁ X1=>?_;refine Zr2 (g:=g) (s:={ s with heap:=h₁ }) (ev.stk env (.head _)).frame X1 fun h₂ X₂=>?_;exact ⟨a,cl,R',V',H',_,rfl,r,fr,.inr (.inr rfl),X₂,m.trans ⟨_,_,rfl⟩,q⟩
theorem Zv4 {c:X} {b:List S} {t:Expr} {x:List Stmt} {pos:Pos} (hc:XMd g sc nm c t) (hb:SOk g sc nm (fun g=>wpSs g b) (execs x)):SOk g sc nm (fun g=>wpS g (.while c b)) (exec (.While t x [] pos)) :=
 fun md A env l₀ R V s₀ s H QN QR E ev fr S m q=>by
 dsimp only [Zb0,Zsf] at q;obtain ⟨_,I,⟨n,hI⟩,hstep⟩:=q;refine wpAny_While (codeAny_whileLoop (fun n s=>∃ R' V' H',RStep env R R'∧Frm R' env sc nm V'∧St g.c R' H' s.heap∧Sm s₀ s∧I n V' H') ?_ n ⟨R,V,H,.refl,fr,S,m,hI⟩);rintro n s₁ ⟨R',V',H',r,f',S',m',hi⟩;have ev':=ev.step r;refine wpAny_mono ((hc md A R' V' env env l₀ s₀ ev' f').2 H' s₁ (fun _ b₁ H''=>if b₁ then wpSs { g with md:=md } b (fun V2 H₂=>∃ m,m<n∧I m V2 H₂) QR E V' H'' else QN V' H'') (fun cl H=>E cl V' H) S' m' (hstep n V' H' hi)) (fun u s₂ z=>?_) fun _ _ z=>Zgd ev (TX.trans r (Zff f' z));obtain ⟨v,H₂,S₂,m₂,q₂,_⟩:=z;cases u with
 | true =>
  dsimp only [if_true] at q₂ ⊢;refine wpAny_mono (hb md A env l₀ R' V' s₀ s₂ H₂ _ QR E ev' f' S₂ m₂ q₂) (fun fl s₃ z=>?_) fun _ _ z=>Zgd ev (TX.trans r z);cases fl with
  | next =>
   obtain ⟨R3,V₃,H₃,r₃,f₃,S₃,m₃,k,hk,q₃⟩:=z;exact ⟨k,hk,R3,V₃,H₃,r.trans r₃,f₃,S₃,m₃,q₃⟩
  | ret v=>exact TF.trans r z
  | brk=>exact z.elim
  | cont=>exact z.elim
 | false =>
  dsimp only [Bool.false_eq_true,if_false] at q₂ ⊢;exact wpAny_execs_nil ⟨R',V',H₂,r,f',S₂,m₂,q₂⟩
theorem tg_k {t:Tg} {tg:Expr} (ht:tgOk sc nm t tg=true):TgK tg:=by
 cases t with
 | var i=>exact Zhe (m:=TgK) ht fun id p _ _=>.inl ⟨id,p,rfl⟩
 | tup is=>obtain ⟨es,k,p,rfl,_⟩:=Zpd ht;exact .inr ⟨es,k,p,rfl⟩
inductive ForI (c:Cx) (env:Env) (sc:Scope) (nm:List Str) (R:RR) (s₀:Shared) (a:Addr) (av:AV) (l:Nat) (I:Nat→VV→Zaa→Prop) (n:Nat) (s:Shared):Prop
 | mk (k:Nat) (R':RR) (V':VV) (H':Zaa) (o':Obj) (hn:n=l - k) (hk:k≤l) (hR:R' a=some (.obj o')) (it:ItObj H' av k o') (r:RStep env R (Zco R' a)) (f:Frm R' env sc nm V') (S:St c R' H' s.heap) (m:Sm s₀ s) (q:I k V' H'):ForI c env sc nm R s₀ a av l I n s
theorem Zm3 {R:RR} {a:Addr} {r:Res}:Zco (rup R a r) a=Zco R a:=by
 funext b
 by_cases z:b=a
 ·subst z;exact rl Zce (rl Zce rfl)
 ·exact rl (Za4 z) (rl (Za4 z) (rl (Zah z) rfl))
theorem Zvf {R:RR} {a b:Addr} {o:Obj} (h:R a=some (.obj o)) (hb:(∃ m,R b=some (.ns m))∨∃ x,R b=some (.cell x)):b≠a:=fun z=>by
 rw [z,h] at hb;rcases hb with ⟨_,hb⟩ | ⟨_,hb⟩<;>cases hb
theorem Frm.dropO {R:RR} {env:Env} {sc:Scope} {nm:List Str} {V:VV} {a:Addr} {o:Obj} (h:R a=some (.obj o)) (f:Frm R env sc nm V):Frm (Zco R a) env sc nm V:=f.congr fun b hb=>Za4 (Zvf h hb)
theorem Ev.dropO {g:Gx} {A:Around} {R R2:RR} {env:Env} {l₀:List Env} {a:Addr} (ev:Ev g A R env l₀) (r:RStep env R (Zco R2 a)):Ev g A R2 env l₀:=⟨ev.aok,fun e he=>by
 have F:=ev.stk e he;obtain ⟨mm,hm⟩:=F.ns;obtain ⟨m',hm'⟩:=r.ns hm;exact ⟨F.kind,F.frame,F.gen,F.co,F.blt,F.glob,m',Zev _ _ hm'⟩⟩
theorem TX.dropO {g:Gx} {env:Env} {sc:Scope} {nm:List Str} {R R2:RR} {s₀ s':Shared} {E:String→VV→Zaa→Prop} {e:Value} {a:Addr} {o₂:Obj} (h:R2 a=some (.obj o₂)) (r:RStep env R (Zco R2 a)) (t:TX g env sc nm R2 s₀ E e s'):TX g env sc nm R s₀ E e s':=by
 obtain ⟨b,cl,R3,V₃,H₃,fl,e1,r₃,f₃,hfl,X,m,q⟩:=t;exact ⟨b,cl,Zco R3 a,V₃,H₃,fl,e1,r.trans r₃.drop,f₃.dropO (r₃.obj h),hfl,X.weaken Zev,m,q⟩
set_option tactic.hygienic true in
theorem Z0z {t:Tg} {it:X} {b:List S} {tg iter:Expr} {x:List Stmt} {pos:Pos} (C:g.c.Ok mg mb) (nd:nm.Nodup) (hn:Ziz iter=true) (ht:tgOk sc nm t tg=true) (hi:XMd g sc nm it iter) (hb:SOk g sc nm (fun g=>wpSs g b) (execs x)) :
  SOk g sc nm (fun g=>wpS g (.for t it b)) (exec (.For tg iter x [] pos)):=fun md A env l₀ R V s₀ s H QN QR E ev fr S m q=>by
 dsimp only [Zay,Zbq,Zam,Zax,Za3,Zb3,Zb0,Zda,Zcx] at q;obtain ⟨hmd,q⟩:=q;subst hmd
 ·refine wpAny_For (wpAny_mono ((hi true A R V env env l₀ s₀ ev fr).1 H s _ (fun cl H=>E cl V H) S m q) (fun u s₁ z=>?_) fun _ _ z=>Zff fr z) (Zgg hn);obtain ⟨av,H₁,hv,S₁,m₁,xs,hxs,I,hI,hstep⟩:=z;refine Zq6 C hv S₁ hxs fun s₂ a o ha hHa ho S₂ m₂=>?_;have hsv:∀ y,av = .str y→PyData.strOk y=true:=by rintro y rfl;cases hv;assumption
  have hna:∀ b,(∃ m,R b=some (.ns m))∨(∃ x,R b=some (.cell x))→b≠a:=by rintro b (⟨m,h⟩ | ⟨m,h⟩) rfl<;>(rw [ha] at h;contradiction)
  have ft:Frm (rup R a (.obj o)) env sc nm V:=fr.congr fun b hb=>Zah (hna b hb);refine codeAny_forLoop_any (ForI g.c env sc nm R s₀ a av xs.length I) ?_ xs.length
   ⟨0,rup R a (.obj o),V,H₁,o,by lia,zero_le _,Zaq,ho,fun b=>.inl ?_,ft,S₂,m₁.trans m₂,hI⟩
  ·rintro n s₃ ⟨k,R',V',H',o',hn',hk,hR',hit,hrs,f',S',m',hi'⟩;obtain ⟨hsame,hend,hturn⟩:=hstep k V' H' hi';have hxs':=Zi4 hsame hxs;rcases lt_or_ge k xs.length with hlt | hge
   ·obtain ⟨xv,hx⟩:∃ xv,xs[k]? = some xv:=⟨xs[k],by simp [hlt]⟩
    refine Zmd hxs' hx hit hR' S' hsv fun s₄ u4 o₂ hvx ho2 S₄ m4=>?_;have r₄:RStep env R (Zco (rup R' a (.obj o₂)) a):=by refine rl Zm3 ?_;exact hrs
    have f₄:Frm (rup R' a (.obj o₂)) env sc nm V':=f'.congr fun b hb=>Zah (Zvf hR' hb);have hst:=hturn xv hx;refine Zm9 (tg_k ht) ho2 ((S₄.res _ _ Zaq).2) ?_;refine Z0o C (ev.aok.hand rfl) nd ht hvx hst f₄ S₄ fun s5 R5 V5 hst r₅ f₅ S5 m5=>?_;have h₅:=r₅.obj (Zaq (R:=R'));have rr:=r₄.trans r₅.drop;refine wpAny_mono (hb true A env l₀ R5 _ s₀ s5 H' _ QR E (Ev.dropO (g:={ g with md:=true }) ev rr) f₅ S5 ((m'.trans m4).trans m5) hst) (fun fl s6 z=>?_) fun _ _ z=>Zgd ev (TX.dropO h₅ rr z);cases fl with
    | next =>
     obtain ⟨R6,V6,H₆,r₆,f₆,S₆,m6,q6⟩:=z;refine ⟨xs.length - (k+1),by lia,k+1,R6,V6,H₆,o₂,rfl,by lia,r₆.obj h₅,?_,rr.trans r₆.drop,f₆,S₆,m6,q6⟩;exact ho2.same2 hsame (hstep (k+1) V6 H₆ q6).1
    | ret v =>
     obtain ⟨R6,av6,H₆,r₆,hv6,S₆,m6,q6⟩:=z;exact ⟨Zco R6 a,av6,H₆,rr.trans r₆.drop,hv6,S₆.weaken Zev,m6,q6⟩
    | brk=>exact z.elim
    | cont=>exact z.elim
   ·obtain ⟨mm,hmm,_⟩:=f'.ns;refine Zq7 (ev.aok.hand rfl) hxs' (by simp;lia) hit hR' hmm S' fun s₄ S₄ m4=>?_;exact wpAny_execs_nil ⟨Zco R' a,V',H',hrs,f'.dropO hR',S₄,m'.trans m4,hend (by lia)⟩
  ·refine rl Zm3 ?_;by_cases z:b=a
   ·subst z;exact rl Zce (rl ha rfl)
   ·exact rl (Za4 z) rfl
end
end Mine
end
section
end
section
namespace Mine
section
variable {g:Gx} {sc:Scope} {nm:List Str} {mg mb:Str→Option Value}
set_option tactic.hygienic true in
theorem DRs.store {es:List (Str×AV)} {kvs:List (Str×Value)} (h:DRs es kvs) {k:Str} {x:AV} {u:Value} (hk:PyData.strOk k=true) (hv:VR x u):DRs (putS es k x) (stored kvs k u):=by
 have ha:(Zb8 es k).isSome=kvs.any (fun kv=>kv.1=k):=by
  induction h with
  | nil=>rfl
  | cons h1 h2 _ ih =>
   unfold Zb8 at ih ⊢;refine rl (find?_cons) (rl any_cons ?_);split
   ·rename_i z;simp at z;simp [z]
   ·rename_i z;simp at z;refine rl ih ?_;simp [z]
 unfold putS stored;refine rl ha ?_;split
 ·clear ha;rename_i z;clear z
  induction h with
  | nil=>exact .nil
  | cons h1 h2 _ ih =>
   rename_i k' a v as vs _;simp only [map_cons];by_cases z:k'=k
   ·simp only [z,if_true];exact .cons hk hv ih
   ·simp only [z,if_false];exact .cons h1 h2 ih
 ·clear ha;rename_i z;clear z
  induction h with
  | nil=>exact .cons hk hv .nil
  | cons h1 h2 _ ih=>exact .cons h1 h2 ih
theorem Zps {A:Around} {R:RR} {H:Zaa} {s s₀:Shared} {E:Value→Shared→Prop} {p:Addr} {k:Str} {t:Tok} {ep:Nat} {es:List (Str×AV)} {x:AV} {u:Value} {Q:Unit→Shared→Prop} (hv:VR x u) (hk:PyData.strOk k=true) (e:H p=some (.dict ep es)) (hz:es.length≤sizeLine)
  (S:St g.c R H s.heap) (m:Sm s₀ s) (q:∀ s' ep',St g.c R (up H p (.dict ep' (putS es k x))) s'.heap→Sm s₀ s'→Q () s'):wpAny (model g.c.prog g.c.w) A (setItem (.ref p) (.str k t) u) Q E s:=by
 obtain ⟨kvs,hd,hr⟩:=Zbu S e;refine wpAny_setItem_pairs (strKind_is _ _ k t) hd.dictOf (fun h' hd' hs=>?_) (by refine rl hr.length ?_;exact hz);obtain ⟨ep',hat⟩:=hd'.dictAt;exact q _ ep' (S.setObj e (by intro _ _ z;contradiction) hs fun D=>⟨_,hat,hr.store hk hv⟩) (m.step _ _)
theorem Zn2 {v o:Expr} {n:Str} {p:Pos} {l:Nat} {env:Env}:swapsWith v (some (.Attribute o n p)) l env=pure false:=by
 cases v<;>rfl
theorem Zpr {A:Around} {R:RR} {H:Zaa} {s s₀:Shared} {E:Value→Shared→Prop} {p:Addr} {j:Int} {t:Tok} {xs:List AV} {x:AV} {u:Value} {Q:Unit→Shared→Prop} (hv:VR x u) (e:H p=some (.list xs)) (h0:0≤j) (h1:j<xs.length) (hz:xs.length<2 ^ 62)
  (S:St g.c R H s.heap) (m:Sm s₀ s) (q:∀ s',St g.c R (up H p (.list (xs.set j.toNat x))) s'.heap→Sm s₀ s'→Q () s'):wpAny (model g.c.prog g.c.w) A (setItem (.ref p) (.int j t) u) Q E s:=by
 obtain ⟨vs,n,k1,k2,k3⟩:=Zbe S e;have hl:=k2.length;have hfin:∀ i:Nat,i=j.toNat→Q () { s with heap:=s.heap.update p (Obj.mapSeq (·.setIfInBounds i u)) }:=by
  rintro i rfl;have hg:∃ n',(s.heap.update p (Obj.mapSeq (·.setIfInBounds j.toNat u))).get? p=some (listOf (vs.toArray.setIfInBounds j.toNat u) n'):=⟨_,Heap.get?_update_self (Obj.mapSeq (·.setIfInBounds j.toNat u)) k1 rfl⟩
  obtain ⟨n',hg⟩:=hg;rw [List.setIfInBounds_toArray] at hg;exact q _ (S.setObj (o':=.list (xs.set j.toNat x)) e (by intro _ _ z;contradiction) (Heap.SameBut.update ..) fun D=>⟨vs.set j.toNat u,n',hg,k2.set hv _⟩) (m.heap _)
 unfold setItem
 try with_reducible refine wpAny_holding ?_
 refine wpAny_bind (wpAny_sequenceKey k3.typeIs (by decide) ?_);refine wpAny_bind (wpAny_callSpecial?_slot (name:=ofString "__setitem__") k3.typeIs PySem.F.slot_list_setitem
  (wpAny_call_entry PySem.F.slot_list_setitem k3.typeIs PySem.F.entry_list_setitem ?_ (PySem.F.args_list_setitem_3 _ _ _)))
 show wpAny _ _ (Builtin.List.listSubscript? (.int j t) >>= _) _ _ s;refine wpAny_bind (wpAny_listSubscript_int (fitsIndex_of h0 (by lia)) ?_);obtain ⟨i,rfl⟩:=Int.eq_ofNat_of_zero_le h0;have hj:i<vs.toArray.size:=by simp only [size_toArray];lia
 have hx':vs.toArray[i]? = some vs.toArray[i]:=Array.getElem?_eq_getElem hj;show wpAny _ _ ((seqItemAt p i >>= fun r=>pure (r.map (i,·))) >>= _) _ _ s;refine wpAny_bind (wpAny_bind (wpAny_seqItemAt k1 rfl (wpAny_pure ?_)));refine rl hx' ?_;show wpAny _ _ (setSeqItemAt p i u >>= _) _ _ s;refine wpAny_bind (wpAny_setSeqItemAt k1 rfl ?_)
 first
  | exact wpAny_bind (wpAny_pure (wpAny_pure ⟨.none,rfl,wpAny_pure (hfin i rfl)⟩))
  | exact wpAny_pure ⟨.none,rfl,wpAny_pure (hfin i rfl)⟩
set_option tactic.hygienic true in
theorem Zn7 {a i:X} {e:X} {o ix v:Expr} {p pos:Pos} (hns:Zhz ix=true) (ha:XMd g sc nm a o) (hi:XMd g sc nm i ix) (hx:XMd g sc nm e v):SOk g sc nm (fun g=>wpS g (.assign (.sub a i) e)) (exec (.Assign [.Subscript o ix p] v pos)) :=
 fun md A env l₀ R V s₀ s H QN QR E ev fr S m q=>by
 dsimp only [Zay,Zbq,Zam,Zax,Za3,Zb3,Zb0,Zda,Zcx,tv,tsub,tattr,ttup] at q;refine wpAny_Assign_Subscript (wpAny_mono ((hx md A R V env env l₀ s₀ ev fr).1 H s _ _ S m q) (fun u s₁ z=>?_) fun _ _ z=>Zff fr z) Zph;obtain ⟨av,H₁,hv,S₁,m₁,q₁⟩:=z;refine wpAny_mono ((ha md A R V env env l₀ s₀ ev fr).1 H₁ s₁ _ _ S₁ m₁ q₁) (fun ov s₂ z=>?_) fun _ _ z=>Zff fr z;obtain ⟨ao,H₂,ho,S₂,m₂,q₂⟩:=z;refine wpAny_mono ((hi md A R V env env l₀ s₀ ev fr).1 H₂ s₂ _ _ S₂ m₂ q₂) (fun iv s₃ z=>?_) fun _ _ z=>Zff fr z;obtain ⟨ai,H₃,hiv,S₃,m₃,q₃⟩:=z;split at q₃
 ·cases ho;cases hiv with
  | str k t hk =>
  split at q₃
  ·rename_i ep es e;exact Zps hv hk e q₃.1 S₃ m₃ fun s' ep' S' m'=>⟨R,V,_,.refl,fr,S',m',q₃.2 ep'⟩
  ·exact q₃.elim
 ·cases ho;cases hiv with
  | int j t =>
  split at q₃
  ·rename_i xs e;exact Zpr hv e q₃.1 q₃.2.1 q₃.2.2.1 S₃ m₃ fun s' S' m'=>⟨R,V,_,.refl,fr,S',m',q₃.2.2.2⟩
  ·exact q₃.elim
 ·exact q₃.elim
noncomputable def putR (n:String) (a:AV):List (String×AV)→List (String×AV)
 | []=>[(n,a)]
 | (k,b)::r=>if k=n then (k,a)::r else (k,b)::putR n a r
theorem Zyh {n:String} {a:AV} {es:List (String×AV)} (nd:(es.map (·.1)).Nodup):putA es n a=putR n a es:=by
 induction es with
 | nil=>rfl
 | cons kb r ih =>
  obtain ⟨k,b⟩:=kb;rw [map_cons,nodup_cons] at nd;replace ih:=ih nd.2;unfold putA at *;rw [putR];by_cases z:k=n
  ·have h2:(Zed ((k,b)::r) n).isSome=true:=by simp [Zed,z]
   rw [h2,if_pos rfl,if_pos z,map_cons,if_pos z];congr 1;refine (map_congr_left fun e he=>?_).trans (map_id r);have hne:e.1≠n:=fun w=>nd.1 (by show k∈_;rw [z,← w];exact mem_map.mpr ⟨e,he,rfl⟩);rw [if_neg hne];rfl
  ·have h2:(Zed ((k,b)::r) n).isSome=(Zed r n).isSome:=by simp [Zed,z]
   rw [h2,if_neg z,← ih];split
   ·exact rl map_cons (rl (if_neg z) rfl)
   ·rfl
theorem Zr6 {n:String} {hsh:Int} {t:Tok} {a:AV} {v:Value} (hv:VR a v) {es:List (String×AV)} {ents:List DictEntry} (h:Zck es ents):Zck (putR n a es) (putL (ofString n) hsh (.str (ofString n) t) v ents):=by
 induction es generalizing ents with
 | nil=>cases ents with
  | nil=>exact ⟨⟨t,rfl⟩,hv,trivial⟩
  | cons=>exact h.elim
 | cons kb r ih =>
  cases ents with
  | nil=>exact h.elim
  | cons e q =>
  obtain ⟨k,b⟩:=kb;obtain ⟨⟨t',hk⟩,hb,hr⟩:=h;replace ih:=ih hr;unfold putR putL;by_cases z:k=n
  ·have h1:e.key.isStr (ofString n)=true:=by refine rl hk (rl z ?_);simp [Value.isStr]
   refine rl h1 (rl (if_pos rfl) (rl (if_pos z) ?_));exact ⟨⟨t',hk⟩,hv,hr⟩
  ·have h1:e.key.isStr (ofString n)=false:=by
    refine rl hk ?_;show (ofString k==ofString n)=false;rw [beq_eq_false_iff_ne];exact fun w=>z (Zgo w)
   rw [h1,if_neg Bool.false_ne_true,if_neg z];exact ⟨⟨t',hk⟩,hb,ih⟩
theorem Zli:∀ {es:List (String×AV)} {ents:List DictEntry},Zck es ents→ents.length=es.length
 | [],[],_=>rfl
 | _::_,_::_,h=>congrArg Nat.succ (Zli h.2.2)
 | [],_::_,h=>h.elim
 | _::_,[],h=>h.elim
theorem Zm5 {n:Str} {hsh:Int} {k v:Value}:∀ {ents:List DictEntry},(putL n hsh k v ents).length≤ents.length+1
 | []=>le_refl _
 | e::r=>by
  unfold putL;split
  ·exact le_succ _
  ·exact succ_le_succ Zm5
set_option tactic.hygienic true in
theorem Zpy {es:List (String×AV)} {n:String} {a:AV} (nd:(es.map (·.1)).Nodup):((putA es n a).map (·.1)).Nodup:=by
 unfold putA;split
 ·rw [map_map,show ((fun x:String×AV=>x.1) ∘ fun e=>if e.1=n then (e.1,a) else e)=(·.1) from by funext e;simp only [Function.comp];split<;>rfl];exact nd
 ·rename_i h;rw [map_append,nodup_append];refine ⟨nd,by simp,fun x hx y hy=>?_⟩;simp only [map_cons,List.map_nil,mem_singleton] at hy;subst hy;rintro rfl;apply h;obtain ⟨e,he,rfl⟩:=mem_map.mp hx;unfold Zed;rw [isSome_map,List.find?_isSome];exact ⟨e,he,by simp⟩
theorem Zpt {A:Around} {R:RR} {H:Zaa} {s s₀:Shared} {E:Value→Shared→Prop} {p:Addr} {n cl:String} {es:List (String×AV)} {x:AV} {u:Value} {Q:Unit→Shared→Prop} (C:g.c.Ok mg mb) (PO:PgOk g.c) (hv:VR x u) (e:H p=some (.inst cl es)) (hat:g.c.P.attrs.contains (cl,n)=true) (hz:es.length≤100)
  (S:St g.c R H s.heap) (m:Sm s₀ s) (q:∀ s',St g.c R (up H p (.inst cl (putA es n x))) s'.heap→Sm s₀ s'→Q () s'):wpAny (model g.c.prog g.c.w) A (setAttr (.ref p) (ofString n) u) Q E s:=by
 obtain ⟨c1,c2,c3,c4,c5,c6⟩:=PO.attr cl n hat;obtain ⟨d,ents,k,x1,x2,x3,x4,x5⟩:=S.setAttr e;have X:=C.kin.keeps S.stays;have I:InstAt s.heap p (instObj (g.c.ca cl) d) (g.c.ca cl) (some (dictOf ents k)):=⟨x1,rfl,rfl,x2⟩
 obtain ⟨f1,f2⟩:=Zgl (n:=n) x3;have hlen:=Zli x3;obtain ⟨cd,hc,hd'⟩:=any_some c2;refine set_plain X I c4 ?_;refine osa_open X (⟨x1,rfl,rfl,x2⟩:InstAt s.heap p (instObj (g.c.ca cl) d) (g.c.ca cl) (some (dictOf ents k))) c5 c6 fun b=>?_;refine wpAny_bind (wpAny_pure (wpAny_bind (wpAny_bind (wpAny_loadPart x1 (wpAny_bind (Looks.here (s:={ s with toks:=s.toks+1 }) (looks_clsIn X hc) ?_))))));rw [hd'];refine wpAny_pure (a:=some d) (wpAny_bind (wpAny_pure (wpAny_bind ?_)));unfold nsSet;refine wpAny_bind (wpAny_bind (wpAny_askSetting (wpAny_pure (wpAny_bind (wpAny_mkText (wpAny_bind (wpAny_loadPart x2 ?_)))))));dsimp only;have hc':(!ents.toArray.any (·.key.isStr (ofString n))&&ents.toArray.any (·.refKey))=false:=by
  have h1:ents.toArray.any (·.refKey)=ents.any (·.refKey):=by exact rl Array.any_toList.symm rfl
  exact rl (h1 ..) (rl (f2 ..) (rl (Bool.and_false ..) rfl))
 rw [aRefKeyMayBeTheName_at,hc'];refine wpAny_updatePart x2 ?_;have hg:∀ (tk:Tok),(s.heap.update d (Obj.putName (ofString n) (PyData.keyHash g.c.w.params (ofString n)) (.str (ofString n) tk) u)).get? d=some (dictOf (putL (ofString n) (PyData.keyHash g.c.w.params (ofString n)) (.str (ofString n) tk) u ents) (putN (ofString n) ents k)):=fun tk=>by
  refine (Heap.get?_update_self _ x2 ?_).trans ?_
  ·rw [putName_dict];rfl
  ·exact rl (putName_dict ..) rfl
 refine wpAny_bind (wpAny_lookBehind (hg _) (pastItsLine_dict (by rw [size_toArray,sizeLine_eq];have:=Zm5 (n:=ofString n) (hsh:=PyData.keyHash g.c.w.params (ofString n)) (k:=.str (ofString n) (s.toks+1)) (v:=u) (ents:=ents);lia)) ?_);refine wpAny_pure (q _ (x5 _ _ _ _ (Heap.SameBut.update ..) (hg _) ?_ (Zpy x4)) (m.step _ _));rw [Zyh x4];exact Zr6 hv x3
set_option tactic.hygienic true in
theorem Zlu {a:X} {n:String} {e:X} {o v:Expr} {p pos:Pos} (C:g.c.Ok mg mb) (PO:PgOk g.c) (ha:XMd g sc nm a o) (hx:XMd g sc nm e v):SOk g sc nm (fun g=>wpS g (.assign (.attr a n) e)) (exec (.Assign [.Attribute o (ofString n) p] v pos)) :=
 fun md A env l₀ R V s₀ s H QN QR E ev fr S m q=>by
 dsimp only [Zay,Zbq,Zam,Zax,Za3,Zb3,Zb0,Zda,Zcx,tv,tsub,tattr,ttup] at q;refine plainObj_wpAny_Assign_Attribute (wpAny_mono ((hx md A R V env env l₀ s₀ ev fr).1 H s _ _ S m q) (fun u s₁ z=>?_) fun _ _ z=>Zff fr z) Zn2;obtain ⟨av,H₁,hv,S₁,m₁,q₁⟩:=z;refine wpAny_mono ((ha md A R V env env l₀ s₀ ev fr).1 H₁ s₁ _ _ S₁ m₁ q₁) (fun ov s₂ z=>?_) fun _ _ z=>Zff fr z;obtain ⟨ao,H₂,ho,S₂,m₂,q₂⟩:=z;split at q₂
 ·cases ho;split at q₂
  ·rename_i cl es e;exact Zpt (g:={ g with md:=md }) C PO hv e q₂.1 q₂.2.1 S₂ m₂ fun s' S' m'=>⟨R,V,_,.refl,fr,S',m',q₂.2.2⟩
  ·exact q₂.elim
 ·exact q₂.elim
theorem Zv6 {cl:String} {msg:Str} {fe:Expr} {k:Nat} {mp cp pos:Pos} (C:g.c.Ok mg mb) (PO:PgOk g.c) (hn:Zb5 sc cl fe=true) (hx:(g.c.P.excs.lookup cl).isSome=true):SOk g sc nm (fun g=>wpS g (.raise cl msg)) (exec (.Raise (some (.Call fe [.Constant (.str msg) k mp] [] cp)) none pos)) :=
 fun md A env l₀ R V s₀ s H QN QR E ev fr S m q=>by
 dsimp only [Zay,Zbq,Zam,Zax,Za3,Zb3,Zb0,Zda,Zcx] at q;obtain ⟨hmd,q⟩:=q;subst hmd;obtain ⟨r1,r2,_⟩:=PO.excR cl hx;obtain ⟨pp,loose,T⟩:=C.top;obtain ⟨tl,N,nmm,qn,bs,hdct,sn,sub,ab,col,dd,k0,k1,k2,k3,k5,mN,hC,hN,hni,TL⟩:=((own_of_in C.kin T r1 r2).keeps S.stays).obj;have FB:=PySem.F.excBase_ValueError;obtain ⟨id,p,rfl⟩:=Zec hn;refine wpAny_Raise_call_subT (C:=g.c.ca cl) (nm:=nmm) (q:=qn) (N:=N) (bs:=bs) (bm:=tl) (hdct:=hdct) (sn:=sn) (sub:=sub) (ab:=ab) (col:=col) (dd:=dd) (k0:=k0) (k1:=k1) (k2:=k2) (k3:=k3) (k5:=k5)
  FB (mN:=mN) (TL.hasType FB.hasBase) (ev.aok.hand rfl) rfl hni (Zk1 C fr S hn r1 ⟨rfl,?_⟩)
 refine evalArgs_plain (spliced_cons (wpAny_Constant_str (k:=k) (pos:=mp) (spliced_nil ⟨rfl,by show 1≤sizeLine;decide,hC,hN,TL,fun h' e hm=>?_⟩)));obtain ⟨t,ht,_⟩:=hm.there;obtain ⟨mm,hmm,_⟩:=fr.ns;obtain ⟨H₁,S,rl⟩:=S;have S':St1 g.c R H₁ h':=by
  refine S.noted (ls:=[]) (fun a ha=>by contradiction) (fun b o z _=>hm.keeps b o z) (fun b o z _=>⟨o.slots,hm.keeps b o z⟩) ?_;obtain ⟨oL,es,ep,w,_⟩:=(S.res _ _ hmm).2;have h1:=leN (S.res _ _ hmm).1;have h2:=lts (hm.keeps _ _ w);exact le_of_lt (lt_of_le_of_lt h1 h2)
 refine ⟨e,cl,R,V,H,.ellipsis,rfl,.refl,fr,.inl rfl,⟨H₁,⟨S',?_,?_,?_,.fresh ht,hx⟩,rl⟩,m.step _ _,q⟩
 ·cases z:R e with
  | none=>rfl
  | some r=>obtain ⟨ob,w⟩:=(S.res _ _ z).2.there;have:=hm.new;rw [show s.heap.get? e=some ob from w] at this;contradiction
 ·cases z:H₁ e with
  | none=>rfl
  | some r=>obtain ⟨D,s4⟩:=S.rep;obtain ⟨ob,w⟩:=(s4.rep _ _ z).there;have:=hm.new;rw [show s.heap.get? e=some ob from w] at this;contradiction
 ·cases z:g.c.base.get? e with
  | none=>rfl
  | some r=>have w:=S.stays _ _ z;have:=hm.new;rw [show s.heap.get? e=some r from w] at this;contradiction
set_option tactic.hygienic true in
theorem Zrm {M:Model} {A:Around} {E:Value→Shared→Prop} {s:Shared} {K:Frag} {e C D:Addr} {oe:Obj} {r:Bool} {Q:Bool→Shared→Prop} (X:K.In s.heap) (he:s.heap.get? e=some oe) (hc:oe.cls = .ref C)
  (h1:instIn K (.ref D) (.type "tuple")=some false) (h2:subIn K (.ref D) (.type "BaseException")=some true) (h3:(clsIn K D).isSome=true) (h4:subIn K (.ref C) (.ref D)=some r) (q:Q r s) :
  wpAny M A (excMatches (.ref e) (.ref D)) Q E s:=by
 obtain ⟨hh,gg,d,tt,os⟩:=s;have L1:=looks_instIn (M:=M) X h1;have L2:=looks_subIn (M:=M) X h2;have L4:=looks_subIn (M:=M) X h4;have LT:Looks M hh (typeOf (.ref e)) (.ref C):=by refine rl hc.symm ?_;exact (Looks.ld he).andThen .now
 obtain ⟨cd,h3⟩:=isSome_iff_exists.mp h3;unfold excMatches;refine wpAny_bind (L1.at ?_);dsimp only [Bool.false_eq_true,if_false];refine wpAny_bind (wpAny_pure (wpAny_bind ?_));have L5:Looks M hh (isExcClass (.ref D)) true:=by
  unfold clsIn at h3;split at h3
  ·rename_i ho;have Lt:Looks M hh (isType (.ref D)) true:=(Looks.ld (part:=none) (X _ _ ho)).andThen .now;intro A' Q' E' s' k' q';unfold isExcClass;refine wpAny_bind (Lt A' _ E' s' k' ?_);refine rl (if_pos rfl) ?_;exact L2 A' _ E' s' k' q'
  ·contradiction
 refine rl (forIn_cons ..) ?_;refine wpAny_bind (wpAny_bind (L5.at ?_));simp only [Bool.not_true,Bool.false_eq_true,if_false];refine wpAny_pure ?_;dsimp only;refine rl forIn_nil ?_;refine wpAny_pure (wpAny_bind (LT.at (wpAny_bind ?_)));refine rl (forIn_cons ..) ?_;refine wpAny_bind (wpAny_bind (L4.at ?_));cases r with
 | true =>
  dsimp only [if_true];exact wpAny_pure (wpAny_pure (wpAny_pure q))
 | false =>
  dsimp only [Bool.false_eq_true,if_false];refine wpAny_pure ?_;dsimp only;refine rl forIn_nil ?_;exact wpAny_pure (wpAny_pure q)
end
end Mine
end
section
namespace Mine
section
variable {g:Gx} {sc:Scope} {nm:List Str} {mg mb:Str→Option Value}
def HdOk (g:Gx) (sc:Scope) (nm:List Str):Hd→ExceptHandler→Prop
 | .mk cl nmi b,.ExceptHandler (some t) name (x::body) _=>Zb5 sc cl t=true∧(g.c.P.excs.lookup cl).isSome=true∧SOk g sc nm (fun g=>wpSs g b) (execs (x::body))∧nmOk sc nm nmi name=true
 | _,_=>False
inductive Zlm (P:Hd→ExceptHandler→Prop):List Hd→List ExceptHandler→Prop
 | nil:Zlm P [] []
 | cons {x e xs es}:P x e→Zlm P xs es→Zlm P (x::xs) (e::es)
theorem Zxf {A:Around} {R:RR} {env:Env} {l₀:List Env} {e:Value} (ev:Ev { g with md:=true } A R env l₀):Ev { g with md:=false } (A.mark (some e)) R env l₀ :=
 ⟨⟨ev.aok.frames,ev.aok.depth,ev.aok.units,fun h=>by contradiction⟩,ev.stk⟩
theorem Zsq {env:Env} {R:RR} {s₀ s:Shared} {e:Value} (h:TX g env sc nm R s₀ (fun _ _ _=>False) e s) {P:Prop}:P:=by
 obtain ⟨_,_,_,_,_,_,_,_,_,_,_,_,q⟩:=h;exact q.elim
theorem Z1g (C:g.c.Ok mg mb) (PO:PgOk g.c) (nd:nm.Nodup) {hs:List Hd} {es:List ExceptHandler} (hh:Zlm (HdOk g sc nm) hs es):∀ (A:Around) (env:Env) (l₀:List Env) (R:RR) (V:VV) (s₀ s:Shared) (H:Zaa) (e:Addr) (cl:String) (QN:VV→Zaa→Prop) (QR:AV→Zaa→Prop) (E:String→VV→Zaa→Prop),
  Ev { g with md:=true } A R env l₀→Frm R env sc nm V→ExcSt g.c R H e cl .none s.heap→Sm s₀ s→wpHs { g with md:=true } hs cl QN QR E V H →
  wpAny (model g.c.prog g.c.w) A (handleBy (.ref e) env es) (TF g env sc nm R s₀ QN QR) (TX g env sc nm R s₀ E) s:=by
 induction hh with
 | nil=>exact fun A env l₀ R V s₀ s H e cl QN QR E ev fr X m q=>q.elim
 | @cons x eh _ _ h r ih =>
  intro A env l₀ R V s₀ s H e cl QN QR E ev fr X m q;obtain ⟨c,nmi,b⟩:=x;obtain ⟨ty,name,body,pos⟩:=eh;rw [Zg8,Zuc] at q;cases ty with
  | none=>exact h.elim
  | some t =>
  cases body with
  | nil=>exact h.elim
  | cons b₀ body =>
  obtain ⟨h1,h2,h3,h4⟩:=h;obtain ⟨r1,r2,r3,r4,r5,_⟩:=PO.excR c h2;obtain ⟨o,vs,o1,o2,o3⟩:=X.obj;refine wpAny_handleBy_cons (codeAny_handlers_test (Zk1 C fr X.st h1 r1 ?_)) (by intro z;contradiction);refine Zrm (C.kin.keeps X.st.stays) o1 o2 r3 r4 r5 (PO.excC cl c X.kn h2) ?_;cases hsub:Zla g.c.P cl c with
  | false =>
   simp only [hsub,Bool.false_eq_true,if_false] at q ⊢;exact ih A env l₀ R V s₀ s H e cl QN QR E ev fr X m q
  | true =>
   simp only [hsub,if_true] at q ⊢;cases nmi with
   | none =>
    cases name with
    | some=>exact Bool.noConfusion h4
    | none =>
    refine codeAny_handlers_suite (Zgh X (by simp) fun h' X'=>?_);refine wpAny_mono (h3 false (A.mark (some (.ref e))) env l₀ R V s₀ { s with heap:=h' } H QN QR (fun _ _ _=>False) (Zxf ev) fr X'.st (m.heap h') q) (fun f s' z=>z) fun _ _ z=>Zsq z
   | some i=>exact Bool.noConfusion h4
theorem Z0s {b:List S} {hs:List Hd} {x:List Stmt} {h₀:ExceptHandler} {es:List ExceptHandler} {pos:Pos} (C:g.c.Ok mg mb) (PO:PgOk g.c) (nd:nm.Nodup) (hb:SOk g sc nm (fun g=>wpSs g b) (execs x)) (hh:Zlm (HdOk g sc nm) hs (h₀::es)) :
  SOk g sc nm (fun g=>wpS g (.try b hs)) (exec (.Try x (h₀::es) [] [] pos)):=fun md A env l₀ R V s₀ s H QN QR E ev fr S m q=>by
 dsimp only [Zay,Zbq,Zam,Zax,Za3,Zb3,Zb0,Zda,Zcx] at q;obtain ⟨hmd,q⟩:=q;subst hmd;refine wpAny_Try_except (wpAny_mono (hb true A env l₀ R V s₀ s H _ QR _ ev fr S m q) (fun f s₁ z=>?_) fun e s₁ z=>?_)
 ·cases f with
  | next=>exact wpAny_execs_nil z
  | ret v=>exact z
  | brk=>exact z
  | cont=>exact z
 ·obtain ⟨a,cl,R',V',H',fl,rfl,r,f',hfl,X,m',q'⟩:=z;refine Znu ev.aok.frames (r.stk ev.stk) X hfl fun h₁ X1=>?_;refine Zgh (s:={ s₁ with heap:=h₁ }) X1 (by simp [rawInt]) fun h₂ X₂=>?_;exact wpAny_mono (Z1g C PO nd hh A env l₀ R' V' s₀ { s₁ with heap:=h₂ } H' a cl QN QR E (ev.step r) f' X₂ (m'.heap h₂) q') (fun _ _ z=>z.trans r) fun _ _ z=>z.trans r
theorem Zul {e:X} {m:X→Prop} (h:Zq9 e=true) (f:∀ x k tup it c,m (.comp x k tup it c)):m e:=X.comp.elim (motive_1:=m) e (eq_of_beq h) f
theorem Zsy {msg:Str} {es:List Expr} {m:List Expr→Prop} (h:Zy4 msg es=true) (f:∀ k p,m [.Constant (.str msg) k p]):m es :=
 Ze8 h fun e h=>Zhy (m:=fun e=>m [e]) h fun _ k p h=>eq_of_beq (and2 h).1▸f k p
variable (C:g.c.Ok mg mb) (PO:PgOk g.c) (nd:nm.Nodup)
include C PO in
theorem xmd {e:X} {v:Expr} (h:mtX g.c.P true sc nm e v=true):XMd g sc nm e v:=fun md=>sX (g:={ g with md:=md }) C PO e v true sc nm h
include C PO nd in
theorem sAs {t:T} {e:X} {tg v:Expr} {pos:Pos} (h1:(Ze9 v||(isLC v&&Zq9 e))=true) (h0:(Zkr v||Zl6 t)=true) (h2:mtT g.c.P sc nm t tg=true) (h3:mtX g.c.P true sc nm e v=true) :
  SOk g sc nm (fun g=>wpS g (.assign t e)) (exec (.Assign [tg] v pos)):=by
 cases t with
 | var i =>
  cases hc:Ze9 v with
  | true=>exact Zn5 nd hc h2 (xmd C PO h3)
  | false =>
   rw [hc,Bool.false_or] at h1;clear h0;revert h1 h3;refine fun h1=>Zul (m:=fun e=>mtX g.c.P true sc nm e v=true→SOk g sc nm (fun g=>wpS g (.assign (.var i) e)) (exec (.Assign [tg] v pos))) (and2 h1).2 fun x k tup it cc h3=>?_;refine Zku (m:=fun v=>XMd g sc nm (.comp x k tup it cc) v→SOk g sc nm (fun g=>wpS g (.assign (.var i) (.comp x k tup it cc))) (exec (.Assign [tg] v pos))) h3 (fun elt ctg iter ifs csc ts p htg o=>?_) (xmd C PO h3);refine rl o.len ?_;exact fun hx=>Zlt C htg nd h2 o.sc o.set (xmd C PO o.it) (fun md=>sX (g:={ g with md:=md }) C PO x elt false _ _ o.x) (fun md=>sC (g:={ g with md:=md }) C PO cc ifs _ _ o.c) hx
 | sub a i=>exact Zng (m:=fun tg=>SOk g sc nm (fun g=>wpS g (.assign (.sub a i) e)) (exec (.Assign [tg] v pos))) h2 fun _ _ _ k1 k2 k3=>Zn7 k1 (xmd C PO k2) (xmd C PO k3) (xmd C PO h3)
 | tup is =>
  have hn:Zkr v=true:=by rw [show Zl6 (.tup is)=false from rfl,Bool.or_false] at h0;exact h0
  exact Zn6 C nd hn h2 (xmd C PO h3)
 | attr a n=>exact Zex (m:=fun tg=>SOk g sc nm (fun g=>wpS g (.assign (.attr a n) e)) (exec (.Assign [tg] v pos))) h2 fun o _ p k=>eq_of_beq (and2 k).1▸Zlu C PO (xmd C PO (and2 k).2) (xmd C PO h3)
include C PO nd in
mutual
theorem sS:∀ (st:S) (t:Stmt),mtS g.c.P sc nm st t=true→SOk g sc nm (fun g=>wpS g st) (exec t)
 | .assign t e,st,h=>Zqm (m:=fun st=>SOk g sc nm (fun g=>wpS g (.assign t e)) (exec st)) h fun ts v p h=>Ze8 (m:=fun ts=>SOk g sc nm (fun g=>wpS g (.assign t e)) (exec (.Assign ts v p))) h fun tg h =>
  have h3:=and2 h;have h2:=and2 h3.1;have h1:=and2 h2.1;sAs C PO nd h1.1 h1.2 h2.2 h3.2
 | .expr e,st,h=>Zoh (m:=fun st=>SOk g sc nm (fun g=>wpS g (.expr e)) (exec st)) h fun v p h=>Zyc (and2 h).1 (xmd C PO (and2 h).2)
 | .ret e,st,h=>Zqg (m:=fun st=>SOk g sc nm (fun g=>wpS g (.ret e)) (exec st)) h fun v p h=>Zew (m:=fun v=>SOk g sc nm (fun g=>wpS g (.ret e)) (exec (.Return v p))) h fun v h=>Z0w (xmd C PO h)
 | .ite c a b,st,h=>Zqi (m:=fun st=>SOk g sc nm (fun g=>wpS g (.ite c a b)) (exec st)) h fun t x y p h=>have h2:=and2 h;have h1:=and2 h2.1;s_if (xmd C PO h1.1) (sSs a x h1.2) (sSs b y h2.2)
 | .while c b,st,h=>Zl1 (m:=fun st=>SOk g sc nm (fun g=>wpS g (.while c b)) (exec st)) h fun t x o p h=>have h1:=and2 (and2 h).2;Zca (m:=fun o=>SOk g sc nm (fun g=>wpS g (.while c b)) (exec (.While t x o p))) (and2 h).1 (Zv4 (xmd C PO h1.1) (sSs b x h1.2))
 | .for t it b,st,h=>Zqj (m:=fun st=>SOk g sc nm (fun g=>wpS g (.for t it b)) (exec st)) h fun tg i x o p h=>have h3:=and2 (and2 h).2;have h2:=and2 h3.1;have h1:=and2 h2.1
  Zca (m:=fun o=>SOk g sc nm (fun g=>wpS g (.for t it b)) (exec (.For tg i x o p))) (and2 h).1 (Z0z C nd h1.1 h1.2 (xmd C PO h2.2) (sSs b x h3.2))
 | .raise cl msg,st,h=>Zl4 (m:=fun st=>SOk g sc nm (fun g=>wpS g (.raise cl msg)) (exec st)) h fun c z p h=>match z,h with
  | some _,h=>Bool.noConfusion h
  | none,h=>Zew (m:=fun c=>SOk g sc nm (fun g=>wpS g (.raise cl msg)) (exec (.Raise c none p))) h fun c h=>Zft (m:=fun c=>SOk g sc nm (fun g=>wpS g (.raise cl msg)) (exec (.Raise (some c) none p))) h fun fe as q h1 h2 h3 =>
   Zsy (m:=fun as=>SOk g sc nm (fun g=>wpS g (.raise cl msg)) (exec (.Raise (some (.Call fe as [] q)) none p))) h3 fun _ _=>Zv6 C PO h1 h2
 | .try b hs,st,h=>Zqd (m:=fun st=>SOk g sc nm (fun g=>wpS g (.try b hs)) (exec st)) h fun x hs' o z p h=>have h1:=and2 (and2 h).2;have h0:=and2 (and2 h).1
  Zca (m:=fun o=>SOk g sc nm (fun g=>wpS g (.try b hs)) (exec (.Try x hs' o z p))) h0.1 (Zca (m:=fun z=>SOk g sc nm (fun g=>wpS g (.try b hs)) (exec (.Try x hs' [] z p))) h0.2
   (Zdq (m:=fun hs'=>SOk g sc nm (fun g=>wpS g (.try b hs)) (exec (.Try x hs' [] [] p))) h1.2 fun h₀ r h=>Z0s C PO nd (sSs b x h1.1) (sHs hs (h₀::r) h)))
 | .pass,st,h=>Zoe (m:=fun st=>SOk g sc nm (fun g=>wpS g .pass) (exec st)) h fun _ _=>Zya
theorem sSs:∀ (l:List S) (ts:List Stmt),mtSs g.c.P sc nm l ts=true→SOk g sc nm (fun g=>wpSs g l) (execs ts)
 | [],ts,h=>Zca (m:=fun ts=>SOk g sc nm (fun g=>wpSs g []) (execs ts)) h Zx4
 | st::r,ts,h=>Zdq (m:=fun ts=>SOk g sc nm (fun g=>wpSs g (st::r)) (execs ts)) h fun e q h=>Zv3 (sS st e (and2 h).1) (sSs r q (and2 h).2)
theorem sHs:∀ (l:List Hd) (ts:List ExceptHandler),mtHs g.c.P sc nm l ts=true→Zlm (HdOk g sc nm) l ts
 | [],ts,h=>Zca (m:=Zlm (HdOk g sc nm) []) h .nil
 | hd::r,ts,h=>Zdq (m:=Zlm (HdOk g sc nm) (hd::r)) h fun e q h=>.cons (sH hd e (and2 h).1) (sHs r q (and2 h).2)
theorem sH:∀ (hd:Hd) (t:ExceptHandler),mtH g.c.P sc nm hd t=true→HdOk g sc nm hd t
 | .mk cl nmi b,.ExceptHandler ty name body p,h=>Zew (m:=fun ty=>HdOk g sc nm (.mk cl nmi b) (.ExceptHandler ty name body p)) h fun t h=>Zdq (m:=fun body=>HdOk g sc nm (.mk cl nmi b) (.ExceptHandler (some t) name body p)) h fun x body h =>
  have h3:=and2 h;have h2:=and2 h3.1;have h1:=and2 h2.1;⟨h1.1,h1.2,sSs b (x::body) h2.2,h3.2⟩
end
end
end Mine
end
section
namespace Mine
theorem Zny {ns:List Str}:∀ {vs:List Value},ns.length=vs.length→∀ n∈ns,((ns.zip vs).lookup n).isSome=true:=by
 induction ns with
 | nil=>intro vs _ n hn;cases hn
 | cons a r ih =>
  intro vs hl n hn;cases vs with
  | nil=>simp at hl
  | cons v vs =>
   simp only [List.zip_cons_cons,lookup_cons];cases hb:n==a with
   | true=>rfl
   | false =>
    have hne:n≠a:=by simpa using hb
    rcases mem_cons.mp hn with h | h
    ·exact absurd h hne
    ·exact ih (by simpa using hl) n h
theorem Znt {α β:Type} {f g:α→Option β}:∀ {l:List α},(∀ x∈l,f x=g x)→l.filterMap f=l.filterMap g
 | [],_=>rfl
 | a::r,h=>by rw [filterMap_cons,filterMap_cons,h a (.head _),Znt fun x hx=>h x (.tail _ hx)]
theorem Zjb {ns:List Str}:∀ {vs:List Value},ns.Nodup→ns.length=vs.length→(ns.filterMap fun n=>((ns.zip vs).lookup n).map fun v=>(n,v))=ns.zip vs:=by
 induction ns with
 | nil=>intro vs _ _;rfl
 | cons a r ih =>
  intro vs hn hl;cases vs with
  | nil=>simp at hl
  | cons v vs =>
   obtain ⟨h1,h2⟩:=nodup_cons.mp hn;simp only [List.zip_cons_cons,filterMap_cons,lookup_cons,beq_self_eq_true,map_some];congr 1;refine Eq.trans ?_ (ih h2 (by simpa using hl));apply Znt;intro n hn';have hne:(n==a)=false:=by
    apply beq_eq_false_iff_ne.mpr;rintro rfl;exact h1 hn'
   simp only [hne]
theorem Zq5 {α:Type} {M:Model} {A:Around} {E:Value→Shared→Prop} {s:Shared} {Q:α→Shared→Prop} {c:Prop} [Decidable c] {a b:Sem α} (hc:¬c) (h:wpAny M A b Q E s):wpAny M A (if c then a else b) Q E s:=by rw [if_neg hc];exact h
theorem Zo6 {s:Shared} {fd:FuncData} {vals:List Value} (h1:fd.params.posonlyargs=[]) (h2:fd.params.vararg=none) (h3:fd.params.kwonlyargs=[]) (h4:fd.params.kwarg=none) (h5:fd.defaults = .none)
  (h6:(fd.params.args.map (·.arg)).Nodup) (h7:fd.params.args.length=vals.length):BindsTo s fd ⟨vals,[]⟩ ((fd.params.args.map (·.arg)).zip vals):=by
 obtain ⟨nm,qn,⟨po,as,va,ko,kd,kw,df⟩,bd,sc,gl,cl,dfl,kdf,dc,pm,an,cd,ct,bl⟩:=fd;replace h1:po=[]:=h1;replace h2:va=none:=h2;replace h3:ko=[]:=h3;replace h4:kw=none:=h4;replace h5:dfl = .none:=h5;subst h1 h2 h3 h4 h5;intro M A E Q q;unfold bindArgs;dsimp only;refine wpAny_bind (wpAny_pure (wpAny_bind (wpAny_pure (a:=(none:Option (Array Value))) ?_)));have hl:(as.map (·.arg)).length=vals.length:=by rw [length_map];exact h7
 have ed:∀ k,List.drop k ((none:Option (Array Value)).getD #[]).toList=[]:=fun _=>List.drop_nil;have e1:(((as.map (·.arg)).take (as.map (·.arg)).length).filter fun n=>(((as.map (·.arg)).zip vals).lookup n).isNone)=[]:=by
  rw [take_length,List.filter_eq_nil_iff];intro n hn;have:=Zny hl n hn;simpa using this
 refine Zq5 (fun z=>lt_irrefl _ (Nat.lt_of_lt_of_eq (of_decide_eq_true (and2 z).1) hl.symm)) ?_;rw [ed];refine Zq5 (fun z=>Bool.noConfusion (((congrArg (fun l=>!l.isEmpty) e1).symm.trans z))) ?_;rw [List.zip_nil_right];refine wpAny_bind (wpAny_pure (wpAny_bind (wpAny_pure ?_)));refine Zq5 (fun z=>Bool.noConfusion z) (wpAny_pure ?_);show Q ((as.map (fun a:PySem.Arg=>a.arg)++[]).filterMap fun n=>(((as.map (fun a:PySem.Arg=>a.arg)).zip vals).lookup n).map fun x=>(n,x)) s;rw [append_nil];exact (Zjb h6 hl).symm▸q
theorem St1.news {c:Cx} {R R':RR} {H:Zaa} {h h':Heap} (S:St1 c R H h) (k:∀ b ob,h.get? b=some ob→h'.get? b=some ob) (hs:h.objs.size≤h'.objs.size)
  (hR:∀ b,R' b=R b∨(h.objs.size≤b∧∃ r,R' b=some r∧ResAt h' b r)):St1 c R' H h':=by
 have S':=S.keeps k hs;obtain ⟨D0,s40⟩:=S.rep;have hb:=S.size;refine ⟨S'.stays,S'.size,fun b r e=>?_,D0,⟨fun a ao e=>(s40.rep a ao e).agree (fun _=>k _ _) fun _ _ _=>⟨rfl,fun _=>k _ _⟩,fun a ao e=>?_,fun a cl es e=>?_,s40.inj⟩⟩
 ·rcases hR b with q | ⟨q1,r',q2,q3⟩
  ·rw [q] at e;exact S'.res b r e
  ·rw [q2] at e;obtain rfl:=osi e;exact ⟨by have:=leN q1;lia,q3⟩
 ·refine ⟨(s40.above a ao e).1,?_⟩;rcases hR a with q | ⟨q1,_⟩
  ·rw [q];exact (s40.above a ao e).2
  ·obtain ⟨ob,w⟩:=(s40.rep a ao e).there;have:=lts w;have:=leN q1;lia
 ·obtain ⟨y1,y2,y3⟩:=s40.dict a cl es e;refine ⟨y1,?_,y3⟩;rcases hR (D0 a) with q | ⟨q1,_⟩
  ·rw [q];exact y2
  ·obtain ⟨_,ents,n,w,_⟩:=s40.rep a _ e;have:=lts w;have:=leN q1;lia
theorem St.news {c:Cx} {R R':RR} {H:Zaa} {h h':Heap} (S:St c R H h) (k:∀ b ob,h.get? b=some ob→h'.get? b=some ob) (hs:h.objs.size≤h'.objs.size)
  (hR:∀ b,R' b=R b∨(h.objs.size≤b∧∃ r,R' b=some r∧ResAt h' b r)):St c R' H h':=let ⟨H₁,s,r⟩:=S;⟨H₁,s.news k hs hR,r⟩
theorem Zle {kf:Str→Option NameKind}:∀ {bs:List (Str×Value)} {m:Str→Option Value} {n:Str},n ∉ bs.map (·.1)→bindL kf bs m n=m n
 | [],_,_,_=>rfl
 | (a,v)::r,m,n,h=>by
  simp only [map_cons,mem_cons,not_or] at h;unfold bindL;rw [Zle h.2];split
  ·simp [h.1]
  ·rfl
theorem Zlg {kf:Str→Option NameKind}:∀ {bs:List (Str×Value)} {m:Str→Option Value} {n:Str},n ∉ bs.map (·.1)→bindC kf bs m n=m n
 | [],_,_,_=>rfl
 | (a,v)::r,m,n,h=>by
  simp only [map_cons,mem_cons,not_or] at h;unfold bindC;rw [Zlg h.2];split
  ·rfl
  ·simp [h.1]
theorem Zlf {kf:Str→Option NameKind}:∀ {bs:List (Str×Value)} {m:Str→Option Value} {n:Str} {v:Value} {i:Nat},(bs.map (·.1)).Nodup→bs[i]? = some (n,v)→kf n=some .local→bindL kf bs m n=some v
 | (a,w)::r,m,n,v,0,hn,e,hk=>by
  simp only [List.getElem?_cons_zero,Option.some.injEq,Prod.mk.injEq] at e;obtain ⟨rfl,rfl⟩:=e;simp only [map_cons,nodup_cons] at hn;unfold bindL;rw [Zle hn.1,if_pos hk];simp
 | (a,w)::r,m,n,v,i+1,hn,e,hk=>by
  simp only [getElem?_cons_succ] at e;simp only [map_cons,nodup_cons] at hn;unfold bindL;exact Zlf hn.2 e hk
theorem Zlh {kf:Str→Option NameKind}:∀ {bs:List (Str×Value)} {m:Str→Option Value} {n:Str} {v:Value} {i:Nat},(bs.map (·.1)).Nodup→bs[i]? = some (n,v)→kf n=some .cell→bindC kf bs m n=some v
 | (a,w)::r,m,n,v,0,hn,e,hk=>by
  simp only [List.getElem?_cons_zero,Option.some.injEq,Prod.mk.injEq] at e;obtain ⟨rfl,rfl⟩:=e;simp only [map_cons,nodup_cons] at hn;unfold bindC;rw [Zlg hn.1,if_neg (by rw [hk];simp)];simp
 | (a,w)::r,m,n,v,i+1,hn,e,hk=>by
  simp only [getElem?_cons_succ] at e;simp only [map_cons,nodup_cons] at hn;unfold bindC;exact Zlh hn.2 e hk
noncomputable def Zu8 (d:Data) (k:FuncData→Bool):Bool:=match d with
 | .func fd=>k fd
 | _=>false
theorem Zog {d:Data} {k:FuncData→Bool} {C:Prop} (h:Zu8 d k=true) (q:∀ fd,d = .func fd→k fd=true→C):C:=by
 cases d with
 | func fd=>exact q fd rfl h
 | _=>contradiction
noncomputable def Zqe (d:FuncBody) (k:List Stmt→Bool):Bool:=match d with
 | .stmts b=>k b
 | _=>false
theorem Zl2 {d:FuncBody} {k:List Stmt→Bool} {C:Prop} (h:Zqe d k=true) (q:∀ b,d = .stmts b→k b=true→C):C:=by
 cases d with
 | stmts b=>exact q b rfl h
 | _=>contradiction
noncomputable def Zyr (d:Option Obj) (k:Obj→Bool):Bool:=match d with
 | some o=>k o
 | none=>false
theorem Zqh {d:Option Obj} {k:Obj→Bool} {C:Prop} (h:Zyr d k=true) (q:∀ o,d=some o→k o=true→C):C:=by
 cases d with
 | some o=>exact q o rfl h
 | none=>contradiction
noncomputable def fnOk (K:Frag) (P:Pg) (a:Addr) (F:Fn):Bool:=Zyr (K.lookup a) fun o=>Zu8 o.data fun fd=>Zqe fd.body fun body=>fd.globals==mainGlobals&&fd.builtins==builtinsNs&&fd.closure.isEmpty&&fd.defaults==.none&&fd.params.posonlyargs.isEmpty&&fd.params.vararg.isNone&&fd.params.kwonlyargs.isEmpty&&fd.params.kwarg.isNone &&
     !fd.scope.isCoroutine&&!fd.scope.isGenerator&&fd.scope.kind==.function&&codeIn K fd.code fd.qualname&&(fd.params.args.map (·.arg))==(F.slots.map ofString).take F.npar&&decide (F.npar≤F.slots.length)&&decide ((F.slots.map ofString).Nodup) &&
     (F.slots.map ofString).all (fun n=>match fd.scope.names.lookup n with | some .local=>true | some .cell=>((cellsFrom 0 fd.scope.names []).lookup n).isSome | _=>false)&&decide ((cellsFrom 0 fd.scope.names []).map (·.1)).Nodup &&
     mtSs P fd.scope (F.slots.map ofString) F.body body
theorem Zfu {l:List (Str×Addr)} {n:Str}:(l.lookup n).isSome=(l.map (·.1)).contains n:=by
 induction l with
 | nil=>rfl
 | cons a r ih =>
  obtain ⟨k,v⟩:=a;simp only [lookup_cons,map_cons,contains_cons];cases hb:n==k with
  | true=>simp
  | false=>simp [ih]
noncomputable def Zf1 (F:Fn) (args:List AV):VV:=args.map some++List.replicate (F.slots.length - F.npar) none
inductive Zxr (K:Frag) (P:Pg) (a:Addr) (F:Fn):Prop
 | mk (o:Obj) (fd:FuncData) (body:List Stmt) (ho:K.lookup a=some o) (hd:o.data = .func fd) (hb:fd.body = .stmts body) (c1:fd.globals=mainGlobals) (c2:fd.builtins=builtinsNs) (c3:fd.closure=[]) (c4:fd.defaults = .none) (c5:fd.params.posonlyargs=[]) (c6:fd.params.vararg=none) (c7:fd.params.kwonlyargs=[]) (c8:fd.params.kwarg=none)
   (c9:fd.scope.isCoroutine=false) (c10:fd.scope.isGenerator=false) (c11:fd.scope.kind = .function) (c12:codeIn K fd.code fd.qualname=true) (c13:fd.params.args.map (·.arg)=(F.slots.map ofString).take F.npar) (c14:F.npar≤F.slots.length) (c15:(F.slots.map ofString).Nodup)
   (c16:∀ n∈F.slots.map ofString,fd.scope.names.lookup n=some .local∨(fd.scope.names.lookup n=some .cell∧((cellsFrom 0 fd.scope.names []).lookup n).isSome=true)) (c17:((cellsFrom 0 fd.scope.names []).map (·.1)).Nodup) (c18:mtSs P fd.scope (F.slots.map ofString) F.body body=true)
theorem Zwu {fd:FuncData} {n:Str} (h:(match fd.scope.names.lookup n with | some .local=>true | some .cell=>((cellsFrom 0 fd.scope.names []).lookup n).isSome | _=>false)=true):fd.scope.names.lookup n=some .local∨(fd.scope.names.lookup n=some .cell∧((cellsFrom 0 fd.scope.names []).lookup n).isSome=true):=by
 revert h;cases fd.scope.names.lookup n with
 | none=>exact fun h=>Bool.noConfusion h
 | some k=>cases k<;>first | exact fun _=>.inl rfl | exact fun h=>.inr ⟨rfl,h⟩ | exact fun h=>Bool.noConfusion h
theorem Zuf {K:Frag} {P:Pg} {a:Addr} {F:Fn} (h:fnOk K P a F=true):Zxr K P a F :=
 Zqh h fun o ho h=>Zog h fun fd hd h=>Zl2 h fun body hb h=>⟨o,fd,body,ho,hd,hb,eq_of_beq (and2 (and2 (and2 (and2 (and2 (and2 (and2 (and2 (and2 (and2 (and2 (and2 (and2 (and2 (and2 (and2 (and2 h).1).1).1).1).1).1).1).1).1).1).1).1).1).1).1).1).1,eq_of_beq (and2 (and2 (and2 (and2 (and2 (and2 (and2 (and2 (and2 (and2 (and2 (and2 (and2 (and2 (and2 (and2 (and2 h).1).1).1).1).1).1).1).1).1).1).1).1).1).1).1).1).2,isEmpty_iff.mp (and2 (and2 (and2 (and2 (and2 (and2 (and2 (and2 (and2 (and2 (and2 (and2 (and2 (and2 (and2 (and2 h).1).1).1).1).1).1).1).1).1).1).1).1).1).1).1).2,eq_of_beq (and2 (and2 (and2 (and2 (and2 (and2 (and2 (and2 (and2 (and2 (and2 (and2 (and2 (and2 (and2 h).1).1).1).1).1).1).1).1).1).1).1).1).1).1).2,isEmpty_iff.mp (and2 (and2 (and2 (and2 (and2 (and2 (and2 (and2 (and2 (and2 (and2 (and2 (and2 (and2 h).1).1).1).1).1).1).1).1).1).1).1).1).1).2,Option.isNone_iff_eq_none.mp (and2 (and2 (and2 (and2 (and2 (and2 (and2 (and2 (and2 (and2 (and2 (and2 (and2 h).1).1).1).1).1).1).1).1).1).1).1).1).2,isEmpty_iff.mp (and2 (and2 (and2 (and2 (and2 (and2 (and2 (and2 (and2 (and2 (and2 (and2 h).1).1).1).1).1).1).1).1).1).1).1).2,Option.isNone_iff_eq_none.mp (and2 (and2 (and2 (and2 (and2 (and2 (and2 (and2 (and2 (and2 (and2 h).1).1).1).1).1).1).1).1).1).1).2,(Bool.not_eq_true' _).mp (and2 (and2 (and2 (and2 (and2 (and2 (and2 (and2 (and2 (and2 h).1).1).1).1).1).1).1).1).1).2,(Bool.not_eq_true' _).mp (and2 (and2 (and2 (and2 (and2 (and2 (and2 (and2 (and2 h).1).1).1).1).1).1).1).1).2,eq_of_beq (and2 (and2 (and2 (and2 (and2 (and2 (and2 (and2 h).1).1).1).1).1).1).1).2,(and2 (and2 (and2 (and2 (and2 (and2 (and2 h).1).1).1).1).1).1).2,eq_of_beq (and2 (and2 (and2 (and2 (and2 (and2 h).1).1).1).1).1).2,of_decide_eq_true (and2 (and2 (and2 (and2 (and2 h).1).1).1).1).2,of_decide_eq_true (and2 (and2 (and2 (and2 h).1).1).1).2,fun n hn=>Zwu (all_eq_true.mp (and2 (and2 (and2 h).1).1).2 n hn),of_decide_eq_true (and2 (and2 h).1).2,(and2 h).2⟩
theorem Zra {F:Fn} {args:List AV} (h:args.length=F.npar) (h':F.npar≤F.slots.length):(Zf1 F args).length=F.slots.length:=by
 unfold Zf1;rw [length_append,length_map,List.length_replicate,h];exact Nat.add_sub_cancel' h'
theorem Zky {F:Fn} {args:List AV} {vals:List Value} {ps:List Str} {i:Nat} {n:Str} (hl:args.length=F.npar) (hv:VRs args vals) (hp:ps=(F.slots.map ofString).take F.npar) (hn:(F.slots.map ofString)[i]? = some n) :
  ∃ v,(Zf1 F args)[i]? = some v∧∀ (y:Option Value),(∀ w,(ps.zip vals)[i]? = some (n,w)→y=some w)→OVW v y:=by
 have hi:i<F.slots.length:=by have:=(gsi hn).1;rwa [length_map] at this
 unfold Zf1;by_cases z:i<F.npar
 ·have hia:i<args.length:=by rw [hl];exact z
  have hav:=getElem?_eq_getElem hia;obtain ⟨w,hw,hvr⟩:=hv.get hav;refine ⟨some args[i],by rw [getElem?_append_left (by rw [length_map];exact hia),getElem?_map,hav];rfl,fun y hy=>?_⟩;rw [hy w (by rw [List.getElem?_zip_eq_some,hp,List.getElem?_take_of_lt z];exact ⟨hn,hw⟩)];exact .some hvr
 ·refine ⟨none,?_,fun y _=>.none⟩;rw [getElem?_append_right (by rw [length_map,hl];exact not_lt.mp z),List.getElem?_replicate,length_map,hl,if_pos (Nat.sub_lt_sub_right (not_lt.mp z) hi)]
noncomputable def Zil (L:Addr) (m cm:Str→Option Value) (cells:List (Str×Addr)) (R:RR):RR:=fun b=>if b=L then some (.ns m) else match cells.find? (fun p=>p.2==b) with
 | some p=>some (.cell (cm p.1))
 | none=>R b
section
variable {L:Addr} {m cm:Str→Option Value} {cells:List (Str×Addr)} {R:RR}
theorem Zr4:Zil L m cm cells R L=some (.ns m):=if_pos rfl
theorem Zo5 {n:Str} {a:Addr} (ab:∀ p∈cells,@LT.lt Nat _ L p.2) (ap:∀ n n' c,(n,c)∈cells→(n',c)∈cells→n=n') (h:cells.lookup n=some a):Zil L m cm cells R a=some (.cell (cm n)):=by
 have hmem:=mem_of_lookup h;have hlt:=ab _ hmem;unfold Zil;rw [if_neg (fun z=>by rw [z] at hlt;exact lt_irrefl _ hlt)];cases hf:cells.find? (fun p=>p.2==a) with
 | none=>exact absurd (beq_self_eq_true a) (List.find?_eq_none.mp hf _ hmem)
 | some p =>
  have h1:=List.mem_of_find?_eq_some hf;have h2:p.2=a:=eq_of_beq (List.find?_some (p:=fun (p:Str×Addr)=>p.2==a) hf);have h3:p.1=n:=ap p.1 n a (by rw [← h2];exact h1) hmem;rw [← h3]
theorem Zun (b:Addr):Zil L m cm cells R b=R b∨b=L∨∃ p∈cells,p.2=b:=by
 unfold Zil;by_cases z:b=L
 ·exact .inr (.inl z)
 ·rw [if_neg z];cases hf:cells.find? (fun p=>p.2==b) with
  | none=>exact .inl rfl
  | some p=>exact .inr (.inr ⟨p,List.mem_of_find?_eq_some hf,eq_of_beq (List.find?_some (p:=fun (p:Str×Addr)=>p.2==b) hf)⟩)
end
theorem Zo4 {c:Cx} {mg mb:Str→Option Value} (C:c.Ok mg mb) (PO:PgOk c) {n:Nat} {md:Bool} {f:String} {F:Fn} (hok:fnOk c.K c.P (c.fa f) F=true) {args:List AV} {Q:AV→Zaa→Prop} {E:String→Zaa→Prop} {H:Zaa} (hlen:args.length=F.npar)
  (q:wpSs ⟨c,n,md⟩ F.body (fun _ H=>Q .none H) Q (fun cl _ H=>E cl H) (Zf1 F args) H):CallOK c (n+1) md f args Q E H:=by
 intro A stk R s vals Rs aok stkok S hv kQ kE;obtain ⟨o,fd,body,ho,hd,hb,c1,c2,c3,c4,c5,c6,c7,c8,c9,c10,c11,c12,c13,c14,c15,c16,c17,c18⟩:=Zuf hok;have X:=C.kin.keeps S.stays;have hvl:=hv.length;have hpl:(fd.params.args.map (·.arg)).length=F.npar:=by rw [c13,length_take,length_map,min_eq_left c14]
 have hpn:(fd.params.args.map (·.arg)).Nodup:=by rw [c13];exact c15.sublist (take_sublist _ _)
 have hpv:fd.params.args.length=vals.length:=by rw [← hvl,hlen,← hpl,length_map]
 have hcs:∀ (k:Nat) n,((cellsFrom k fd.scope.names []).lookup n).isSome=((cellsFrom 0 fd.scope.names []).lookup n).isSome:=fun k n=>by
  rw [Zfu,Zfu,cellsFrom_names fd.scope.names 0 k [] [] rfl]
 have hnodup:∀ k:Nat,((cellsFrom k fd.scope.names []).map (·.1)).Nodup:=fun k=>by rw [← cellsFrom_names fd.scope.names 0 k [] [] rfl];exact c17
 refine codeAny_call_function (by have:=aok.depth;lia) (X _ _ ho) hd c9 c10 hb (codeRec_of X c12) (Zo6 c5 c6 c7 c8 c4 hpn hpv _ _ _ _ ?_);rw [c3];refine wpAny_newFunctionEnv_cells c11 (fun x hx=>?_) fun env he s₁ x=>?_
 ·have hm:x.1∈F.slots.map ofString:=by
   have:=(List.of_mem_zip (show (x.1,x.2)∈_ from hx)).1;rw [c13] at this;exact mem_of_mem_take this
  exact (c16 x.1 hm).imp_right fun h=>⟨h.1,by rw [hcs];exact h.2⟩
 subst he;refine ⟨(C.nolimit.keeps S.stays).keeps x.toInCall.keep,codeAny_func ?_⟩;generalize henv:newEnv fd.scope s.heap.objs.size fd.globals (cellsFrom (s.heap.objs.size+1) fd.scope.names []) (fd.qualname++".<locals>.") (some (c.fa f)) fd.code none fd.builtins=env at x ⊢;have el:env.locals=s.heap.objs.size:=by rw [← henv];rfl
 have es:env.scope=fd.scope:=by rw [← henv];rfl
 have ec:env.cells=cellsFrom (s.heap.objs.size+1) fd.scope.names []:=by rw [← henv];rfl
 have eg:env.globals=mainGlobals:=by rw [← henv];exact c1
 have eb:env.builtins=builtinsNs:=by rw [← henv];exact c2
 have ef:env.frame=some env.locals:=by rw [← henv];rfl
 clear henv;have ek:∀ n,env.kindOf n=fd.scope.names.lookup n:=fun n=>by unfold Env.kindOf;rw [es]
 generalize hm:bindL env.kindOf ((fd.params.args.map (·.arg)).zip vals) (fun _=>none)=m at x;generalize hcm:bindC env.kindOf ((fd.params.args.map (·.arg)).zip vals) (fun _=>none)=cm at x;have hsz:s.heap.objs.size≤s₁.heap.objs.size:=by
  obtain ⟨oL,_,_,w,_⟩:=x.toInCall.ns;rw [← el];exact le_of_lt (lts w)
 have habove:∀ p∈env.cells,@LT.lt Nat _ env.locals p.2:=fun p hp=>x.above p.1 p.2 hp;have hap:∀ n n' c,(n,c)∈env.cells→(n',c)∈env.cells→n=n':=fun n n' c h h'=>name_of_addr x.apart h h';have hL:Zil env.locals m cm env.cells R env.locals=some (.ns m):=Zr4;have hcell:∀ n a,env.cells.lookup n=some a→Zil env.locals m cm env.cells R a=some (.cell (cm n)):=fun n a h=>Zo5 habove hap h;have hR:∀ b,Zil env.locals m cm env.cells R b=R b∨(s.heap.objs.size≤b∧∃ r,Zil env.locals m cm env.cells R b=some r∧ResAt s₁.heap b r):=fun b=>by
  rcases Zun (L:=env.locals) (m:=m) (cm:=cm) (cells:=env.cells) (R:=R) b with h | rfl | ⟨p,h1,rfl⟩
  ·exact .inl h
  ·exact .inr ⟨by rw [el];exact le_refl _,_,hL,x.toInCall.ns⟩
  ·have hl:env.cells.lookup p.1=some p.2:=lookup_of_mem_nodup (by rw [ec];exact hnodup _) h1;exact .inr ⟨by rw [← el];exact le_of_lt (habove p h1),_,hcell _ _ hl,x.cell _ _ hl⟩
 generalize Zil env.locals m cm env.cells R=R' at hL hcell hR;have hlt:∀ b r,R b=some r→@LT.lt Nat _ b s.heap.objs.size:=fun b r e=>let ⟨ob,w⟩:=(S.res b r e).2.there;lts w
 have hold:∀ b r,R b=some r→R' b=some r:=fun b r e=>by
  rcases hR b with h | ⟨h,_⟩
  ·rw [h];exact e
  ·exact absurd (hlt b r e) (not_lt.mpr h)
 have hzn:(((fd.params.args.map (·.arg)).zip vals).map (·.1)).Nodup:=by rw [List.map_fst_zip (by rw [length_map];exact le_of_eq hpv)];exact hpn
 have fr:Frm R' env fd.scope (F.slots.map ofString) (Zf1 F args):=by
  refine ⟨by rw [es];exact c11,eg,eb,fun id h=>?_,fun id h=>?_,fun id h=>?_,fun id h=>by rw [ek];exact h,fun id h=>by rw [ek];exact h,by rw [Zra hlen c14,length_map],fun n n' a h h'=>hap n n' a (mem_of_lookup h) (mem_of_lookup h'),⟨m,hL,fun i n hn hk=>?_⟩,fun i n hn hk=>?_⟩
  ·rw [ek];exact eq_of_beq h
  ·rw [ek];exact Zkw h
  ·rw [ek];exact Zi1 h
  ·obtain ⟨v,h1,h2⟩:=Zky hlen hv c13 hn;exact ⟨v,h1,h2 _ fun w hw=>by rw [← hm];exact Zlf hzn hw hk⟩
  ·obtain ⟨v,h1,h2⟩:=Zky hlen hv c13 hn;rcases c16 n (mem_of_getElem? hn) with z | ⟨z1,z2⟩
   ·rw [ek,z] at hk;rcases hk with hk | hk<;>contradiction
   ·obtain ⟨a,ha⟩:=isSome_iff_exists.mp (show (env.cells.lookup n).isSome=true by rw [ec,hcs];exact z2);exact ⟨a,_,v,ha,hcell n a ha,h1,h2 _ fun w hw=>by rw [← hcm];exact Zlh hzn hw (by rw [ek];exact z1)⟩
 have ev:Ev ⟨c,n,md⟩ (A.deeper env) R' env stk:=by
  refine ⟨⟨?_,?_,?_,aok.hand⟩,fun e he=>?_⟩
  ·show A.frames.map (env::·)=_;rw [aok.frames];rfl
  ·have:=aok.depth;show A.depth+1+110+4+8*n<_;lia
  ·have:=aok.units;show A.units+3+100+10*4+60*n<_;lia
  ·rcases mem_cons.mp he with rfl | he
   ·exact ⟨by rw [es];exact c11,ef,by rw [es];exact c10,by rw [es];exact c9,eb,eg,m,hL⟩
   ·have G:=stkok e he;obtain ⟨mm,hmm⟩:=G.ns;exact ⟨G.kind,G.frame,G.gen,G.co,G.blt,G.glob,mm,hold _ _ hmm⟩
 have back:∀ {R2:RR},RStep env R' R2→∀ b r,R b=some r→R2 b=some r:=fun {R2} r b y e=>by
  have hlt:=hlt b y e;rcases r b with h | ⟨h,_⟩ | ⟨⟨nn,h⟩,_⟩
  ·rw [h];exact hold b y e
  ·rw [h,el] at hlt;exact absurd hlt (lt_irrefl _)
  ·have:=habove _ (mem_of_lookup h);rw [el] at this;exact absurd (Nat.lt_trans hlt this) (lt_irrefl _)
 refine wpAny_mono (sSs (g:=⟨c,n,md⟩) C PO c15 F.body body c18 md (A.deeper env) env stk R' (Zf1 F args) s s₁ H _ Q _ ev fr (S.news x.toInCall.keep hsz hR) x.toInCall.same q) (fun fl s₂ z=>?_) fun e s₂ z=>?_
 ·cases fl with
  | next =>
   obtain ⟨R2,V2,H₂,r₂,_,S₂,m₂,q₂⟩:=z;exact kQ .none .none s₂ H₂ .none (S₂.weaken (back r₂)) m₂ q₂
  | ret v =>
   obtain ⟨R2,av,H₂,r₂,hv2,S₂,m₂,q₂⟩:=z;exact kQ av v s₂ H₂ hv2 (S₂.weaken (back r₂)) m₂ q₂
  | brk=>exact z.elim
  | cont=>exact z.elim
 ·obtain ⟨a,cl,R2,V2,H₂,fl,rfl,r₂,f₂,hfl,X₂,m₂,q₂⟩:=z;refine Zrn ev.aok.frames (r₂.stk ev.stk) X₂ hfl fun h' X3=>?_;exact kE a cl _ H₂ (X3.weaken (back r₂)) (m₂.heap h') q₂
end Mine
end
section
namespace Mine
noncomputable def Zse (v:Option (Option Value)):Addr:=match v with
 | some (some (.ref a))=>a
 | _=>0
noncomputable def caOf (K:Frag) (cl:String):Addr:=Zse (nsIn K mainGlobals (ofString cl))
noncomputable def faOf (K:Frag) (P:Pg) (f:String):Addr:=match P.meths.find? (fun p=>p.1++"."++p.2==f) with
 | some (cl,m)=>Zse (findIn K (.ref (caOf K cl)) (ofString m))
 | none=>Zse (nsIn K mainGlobals (ofString f))
noncomputable def vrB (a:AV) (v:Value):Bool:=match a with
 | .none=>v==.none
 | .bool a=>v==.bool a
 | .int a=>if h:v.ctorIdx=4 then Value.int.elim (motive:=fun _=>Bool) v h fun b _=>b==a else false
 | .str a=>if h:v.ctorIdx=6 then Value.str.elim (motive:=fun _=>Bool) v h fun b _=>b==a&&PyData.strOk b else false
 | .ref _=>false
theorem Z0i {a:AV} {v:Value} (h:vrB a v=true):VR a v:=by
 cases a with
 | none=>refine rl (eq_of_beq h) ?_;exact .none
 | bool b=>refine rl (eq_of_beq h) ?_;exact .bool b
 | int i=>exact (dn h).elim fun q z=>Value.int.elim (motive:=fun v=>∀ q,Value.int.elim (motive:=fun _=>Bool) v q (fun b _=>b==i)=true→VR (.int i) v) v q (fun b t _ z=>eq_of_beq z▸.int b t) q z
 | str x=>exact (dn h).elim fun q z=>Value.str.elim (motive:=fun v=>∀ q,Value.str.elim (motive:=fun _=>Bool) v q (fun b _=>b==x&&PyData.strOk b)=true→VR (.str x) v) v q (fun b t _ z=>eq_of_beq (and2 z).1▸.str b t (and2 z).2) q z
 | ref p=>exact Bool.noConfusion h
noncomputable def okFn (K:Frag) (P:Pg):Bool:=P.gfns.all fun f=>nsIn K mainGlobals (ofString f)==some (some (.ref (faOf K P f)))&&keepIn K (.ref (faOf K P f))
noncomputable def Z06 (K:Frag) (P:Pg):Bool:=P.classes.all fun cl=>nsIn K mainGlobals (ofString cl)==some (some (.ref (caOf K cl)))&&keepIn K (.ref (caOf K cl))&&makesIn K (caOf K cl) &&
 findIn K (.ref (caOf K cl)) "__init__"==some (some (.ref (faOf K P (cl++".__init__"))))&&isFn K (.ref (faOf K P (cl++".__init__")))
noncomputable def Zyy (K:Frag) (P:Pg):Bool:=P.meths.all fun p=>plainGet K (caOf K p.1) (ofString p.2)&&findIn K (.ref (caOf K p.1)) (ofString p.2)==some (some (.ref (faOf K P (p.1++"."++p.2)))) &&
 isFn K (.ref (faOf K P (p.1++"."++p.2)))&&keepIn K (.ref (faOf K P (p.1++"."++p.2)))
noncomputable def Zyz (K:Frag) (P:Pg):Bool:=P.attrs.all fun p=>plainGet K (caOf K p.1) (ofString p.2)&&hasDictIn K (caOf K p.1)&&findIn K (.ref (caOf K p.1)) (ofString p.2)==some none &&
 findIn K (.ref (caOf K p.1)) "__setattr__"==some (some (.builtin "object.__setattr__"))&&plainOver K (caOf K p.1)&&takerIn K (caOf K p.1) (ofString p.2)==some none
noncomputable def Zyx (K:Frag) (P:Pg):Bool:=P.prims.all fun f=>nsIn K mainGlobals (ofString f)==some none&&!(ofString f==ofString "__name__")&&bootBuiltins (ofString f)==some (Zg1 f)
noncomputable def Z05 (K:Frag) (P:Pg):Bool:=P.excs.all fun p=>nsIn K mainGlobals (ofString p.1)==some (some (.ref (caOf K p.1)))&&excIn K (caOf K p.1) veM "ValueError.__new__"&&instIn K (.ref (caOf K p.1)) (.type "tuple")==some false&&subIn K (.ref (caOf K p.1)) (.type "BaseException")==some true &&
 (clsIn K (caOf K p.1)).isSome&&typeIn K (.ref (caOf K p.1))==some (.type "type")&&instIn K (.ref (caOf K p.1)) (.type "type")==some true&&!typeNames.contains p.1&&(P.excs.all fun q=>subIn K (.ref (caOf K p.1)) (.ref (caOf K q.1))==some (Zla P p.1 q.1))
noncomputable def Zwj (K:Frag) (P:Pg):Bool:=P.consts.all fun p=>match nsIn K mainGlobals (ofString p.1) with
 | some (some x)=>vrB p.2 x
 | _=>false
noncomputable def Z04 (K:Frag) (P:Pg):Bool:=P.fns.all fun p=>fnOk K P (faOf K P p.1) p.2
noncomputable def Zoj (K:Frag) (P:Pg):Bool:=okFn K P&&Z06 K P&&Zyy K P&&Zyz K P&&Zyx K P&&Z05 K P&&Zwj K P&&Z04 K P
theorem Zbs {α:Type}:∀ {l:List (String×α)} {n:String} {c:α},l.lookup n=some c→(n,c)∈l
 | (k,v)::r,n,c,h=>by
  rw [lookup_cons] at h;cases hb:n==k with
  | true=>rw [hb] at h;obtain rfl:=osi h;refine rl (beq_iff_eq.mp hb) ?_;exact mem_cons_self
  | false=>rw [hb] at h;exact mem_cons_of_mem _ (Zbs h)
noncomputable def cxOf (prog:Program) (w:World) (K:Frag) (base:Heap) (P:Pg):Cx:=⟨prog,w,K,base,P,faOf K P,caOf K⟩
theorem Zbp {α:Type} {l:List α} {p:α→Bool} (h:l.all p=true) {a:α} (m:a∈l):p a=true:=all_eq_true.mp h a m
theorem Zb2 {α:Type} [BEq α] [LawfulBEq α] {l:List α} {a:α} (h:l.contains a=true):a∈l:=contains_iff_mem.mp h
set_option tactic.hygienic true in
theorem Zwe {prog:Program} {w:World} {K:Frag} {base:Heap} {P:Pg} (h:Zoj K P=true):PgOk (cxOf prog w K base P)∧∀ f F,P.fns.lookup f=some F→fnOk K P (faOf K P f) F=true:=by
 refine ⟨⟨fun f hf=>?_,fun cl hf=>?_,fun cl m hf=>?_,fun cl n hf=>?_,fun f hf=>?_,fun cl hf=>?_,fun cl d hc hd=>?_,fun n v hf=>?_⟩,fun f F hf=>Zbp (and2 h).2 (Zbs hf)⟩
 ·exact ⟨eq_of_beq (and2 (Zbp (and2 (and2 (and2 (and2 (and2 (and2 (and2 h).1).1).1).1).1).1).1 (Zb2 hf))).1,(and2 (Zbp (and2 (and2 (and2 (and2 (and2 (and2 (and2 h).1).1).1).1).1).1).1 (Zb2 hf))).2⟩
 ·exact ⟨eq_of_beq (and2 (and2 (and2 (and2 (Zbp (and2 (and2 (and2 (and2 (and2 (and2 (and2 h).1).1).1).1).1).1).2 (Zb2 hf))).1).1).1).1,(and2 (and2 (and2 (and2 (Zbp (and2 (and2 (and2 (and2 (and2 (and2 (and2 h).1).1).1).1).1).1).2 (Zb2 hf))).1).1).1).2,(and2 (and2 (and2 (Zbp (and2 (and2 (and2 (and2 (and2 (and2 (and2 h).1).1).1).1).1).1).2 (Zb2 hf))).1).1).2,eq_of_beq (and2 (and2 (Zbp (and2 (and2 (and2 (and2 (and2 (and2 (and2 h).1).1).1).1).1).1).2 (Zb2 hf))).1).2,(and2 (Zbp (and2 (and2 (and2 (and2 (and2 (and2 (and2 h).1).1).1).1).1).1).2 (Zb2 hf))).2⟩
 ·exact ⟨(and2 (and2 (and2 (Zbp (and2 (and2 (and2 (and2 (and2 (and2 h).1).1).1).1).1).2 (Zb2 hf))).1).1).1,eq_of_beq (and2 (and2 (and2 (Zbp (and2 (and2 (and2 (and2 (and2 (and2 h).1).1).1).1).1).2 (Zb2 hf))).1).1).2,(and2 (and2 (Zbp (and2 (and2 (and2 (and2 (and2 (and2 h).1).1).1).1).1).2 (Zb2 hf))).1).2,(and2 (Zbp (and2 (and2 (and2 (and2 (and2 (and2 h).1).1).1).1).1).2 (Zb2 hf))).2⟩
 ·exact ⟨(and2 (and2 (and2 (and2 (and2 (Zbp (and2 (and2 (and2 (and2 (and2 h).1).1).1).1).2 (Zb2 hf))).1).1).1).1).1,(and2 (and2 (and2 (and2 (and2 (Zbp (and2 (and2 (and2 (and2 (and2 h).1).1).1).1).2 (Zb2 hf))).1).1).1).1).2,eq_of_beq (and2 (and2 (and2 (and2 (Zbp (and2 (and2 (and2 (and2 (and2 h).1).1).1).1).2 (Zb2 hf))).1).1).1).2,eq_of_beq (and2 (and2 (and2 (Zbp (and2 (and2 (and2 (and2 (and2 h).1).1).1).1).2 (Zb2 hf))).1).1).2,(and2 (and2 (Zbp (and2 (and2 (and2 (and2 (and2 h).1).1).1).1).2 (Zb2 hf))).1).2,eq_of_beq (and2 (Zbp (and2 (and2 (and2 (and2 (and2 h).1).1).1).1).2 (Zb2 hf))).2⟩
 ·exact ⟨eq_of_beq (and2 (and2 (Zbp (and2 (and2 (and2 (and2 h).1).1).1).2 (Zb2 hf))).1).1,not1 (and2 (and2 (Zbp (and2 (and2 (and2 (and2 h).1).1).1).2 (Zb2 hf))).1).2,eq_of_beq (and2 (Zbp (and2 (and2 (and2 (and2 h).1).1).1).2 (Zb2 hf))).2⟩
 ·obtain ⟨l,hl⟩:=isSome_iff_exists.mp hf;exact ⟨eq_of_beq (and2 (and2 (and2 (and2 (and2 (and2 (and2 (and2 (Zbp (and2 (and2 (and2 h).1).1).2 (Zbs hl))).1).1).1).1).1).1).1).1,(and2 (and2 (and2 (and2 (and2 (and2 (and2 (and2 (Zbp (and2 (and2 (and2 h).1).1).2 (Zbs hl))).1).1).1).1).1).1).1).2,eq_of_beq (and2 (and2 (and2 (and2 (and2 (and2 (and2 (Zbp (and2 (and2 (and2 h).1).1).2 (Zbs hl))).1).1).1).1).1).1).2,eq_of_beq (and2 (and2 (and2 (and2 (and2 (and2 (Zbp (and2 (and2 (and2 h).1).1).2 (Zbs hl))).1).1).1).1).1).2,(and2 (and2 (and2 (and2 (and2 (Zbp (and2 (and2 (and2 h).1).1).2 (Zbs hl))).1).1).1).1).2,eq_of_beq (and2 (and2 (and2 (and2 (Zbp (and2 (and2 (and2 h).1).1).2 (Zbs hl))).1).1).1).2,eq_of_beq (and2 (and2 (and2 (Zbp (and2 (and2 (and2 h).1).1).2 (Zbs hl))).1).1).2,not1 (and2 (and2 (Zbp (and2 (and2 (and2 h).1).1).2 (Zbs hl))).1).2⟩
 ·obtain ⟨l,hl⟩:=isSome_iff_exists.mp hc;obtain ⟨l',hl'⟩:=isSome_iff_exists.mp hd;exact eq_of_beq (Zbp (and2 (Zbp (and2 (and2 (and2 h).1).1).2 (Zbs hl))).2 (Zbs hl'))
 ·have q:=Zbp (and2 (and2 h).1).2 (Zbs hf);dsimp only at q;split at q
  ·rename_i x hx;exact ⟨x,hx,Z0i q⟩
  ·contradiction
noncomputable def Ze7 (p:Addr) (ns:List Int):Zaa:=fun a=>if a=p then some (.script ns) else none
theorem Zwy {vs:List Value} {ns:List Int} (h:IntsAre vs ns):VRs (ns.map AV.int) vs:=by
 induction h with
 | nil=>exact .nil
 | cons n t _ ih=>exact .cons (.int n t) ih
set_option tactic.hygienic true in
theorem enter {prog:Program} {w:World} {K:Frag} {P:Pg} {mg mb:Str→Option Value} {p:Program} {loose:List Str} {mean:ExcName→Option Value} {s₁:Shared} {fa sp:Addr} {vs:List Value} {ns:List Int} {n:Nat} {E:Value→Shared→Prop} {Q:Value→Shared→Prop} {nl:Str}
  (hn:n≤50) (KX:K.In s₁.heap) (T:Top p loose mean mg mb s₁.heap) (hseer:s₁.heap.NoSeer) (htree:prog.given.tree=none) (hnl:nl=ofString "law") (hmg:mg nl=some (.ref fa)) (hok:Zoj K P=true) (hlaw:P.gfns.contains "law" = true)
  (hget:s₁.heap.get? sp=some { cls:=.type "list",data:=.seq vs.toArray }) (hI:IntsAre vs ns)
  (hcall:∀ c:Cx,c.P=P→c.Ok mg mb→PgOk c→(∀ f F,P.fns.lookup f=some F→fnOk c.K P (c.fa f) F=true)→CallOK c n true "law" [.ref sp] (fun v _=>v = .bool true) (fun _ _=>False) (Ze7 sp ns))
  (hq:∀ s',s₁.heap.StaysIn s'.heap→s'.os=s₁.os→s'.gens=s₁.gens→Q (.bool true) s'):wpAny (model prog w) callerA (call (.ref fa) [.ref sp]) Q E s₁:=by
 obtain ⟨PO,FO⟩:=Zwe (prog:=prog) (w:=w) (base:=s₁.heap) hok;have C:(cxOf prog w K s₁.heap P).Ok mg mb:=⟨KX,T.g,T.b,T.nolimit,T.builtins,hseer,htree,p,loose,topRead_of T⟩
 have hfa:fa=(cxOf prog w K s₁.heap P).fa "law":=by
  have h1:=(PO.fn "law" hlaw).1;have h2:=mg_of KX T.g h1;rw [← hnl,hmg] at h2;exact Value.ref.inj (osi h2)
 have S:St (cxOf prog w K s₁.heap P) (fun _=>none) (Ze7 sp ns) s₁.heap:=by
  have hs:∀ a o,Ze7 sp ns a=some o→a=sp∧o = .script ns:=fun a o e=>by
   unfold Ze7 at e;split at e
   ·rename_i z;obtain rfl:=osi e;exact ⟨z,rfl⟩
   ·contradiction
  refine ⟨_,(?_:St1 _ _ (Ze7 sp ns) _),Real.raw fun a o e=>by refine rl ((hs a o e).2) ?_;rfl⟩;refine ⟨fun _ _ e=>e,le_refl _,fun _ _ e=>(by contradiction),fun _=>0,⟨fun a o e=>?_,fun a o e=>?_,fun a cl es e=>?_,fun a b cl es cl' es' e=>?_⟩⟩
  ·obtain ⟨rfl,rfl⟩:=hs a o e;exact ⟨vs,0,hget,Zwy hI⟩
  ·obtain ⟨rfl,rfl⟩:=hs a o e;exact ⟨⟨fun w=>(by contradiction),fun w=>(by contradiction)⟩,rfl⟩
  ·cases (hs a _ e).2
  ·cases (hs a _ e).2
 refine rl hfa ?_;refine wpAny_call (hcall _ rfl C PO FO callerA [] (fun _=>none) s₁ [.ref sp] _ ⟨rfl,?_,?_,fun _=>rfl⟩ (fun e he=>by contradiction) S (.cons (.ref sp) .nil) ?_ ?_)
 ·show 1+300+110+0+8*n<1000;omega
 ·show 4+100+10*0+60*n<9900;omega
 ·rintro av v s' H' hv S' m rfl;cases hv;obtain ⟨h,tk,rfl⟩:=m;exact hq _ S'.stays rfl rfl
 ·rintro e cl s' H' _ _ h;exact h.elim
end Mine
end
section
namespace Mine
structure Gd (c:Cx) (P:Pg):Prop where
 hP:c.P=P
 ok:∃ mg mb,c.Ok mg mb
 pg:PgOk c
 fn:∀ f F,P.fns.lookup f=some F→fnOk c.K P (c.fa f) F=true
theorem Gd.call {c:Cx} {P:Pg} (G:Gd c P) {n:Nat} {md:Bool} {f:String} {F:Fn} (hf:P.fns.lookup f=some F) {args:List AV} {Q:AV→Zaa→Prop} {E:String→Zaa→Prop} {H:Zaa} (hlen:args.length=F.npar)
  (q:wpSs ⟨c,n,md⟩ F.body (fun _ H=>Q .none H) Q (fun cl _ H=>E cl H) (Zf1 F args) H):CallOK c (n+1) md f args Q E H:=by
 obtain ⟨mg,mb,C⟩:=G.ok;have:=G.fn f F hf;rw [← G.hP] at this;exact Zo4 C G.pg this hlen q
section
variable {Q:AV→Zaa→Prop} {H:Zaa} {x y:Int} {a b:Str}
theorem Zcv:wbin .Add (.int x) (.int y) Q H=Q (.int (x+y)) H:=rfl
theorem Zdh:wbin .Sub (.int x) (.int y) Q H=Q (.int (x - y)) H:=rfl
theorem Zdt:wbin .Mult (.int x) (.int y) Q H=(IntMulOk x y∧Q (.int (x*y)) H):=rfl
theorem Zbv:wbin .FloorDiv (.int x) (.int y) Q H=(y≠0∧Q (.int (x.fdiv y)) H):=rfl
theorem Zbx:wbin .Mod (.int x) (.int y) Q H=(y≠0∧Q (.int (x.fmod y)) H):=rfl
theorem Zd5:wbin .Pow (.int x) (.int y) Q H=((2≤x∧1≤y∧Builtin.Int.intTooBig (((Builtin.Int.intBits x:Nat):Int)*y)=false)∧Q (.int (x ^ y.toNat)) H):=rfl
theorem Zcj:wbin .Add (.str a) (.str b) Q H=(a.length+b.length≤sizeLine∧Q (.str (a++b)) H):=rfl
theorem c_lt:wcmp .Lt (.int x) (.int y) Q H=Q (.bool (decide (x<y))) H:=rfl
theorem c_le:wcmp .LtE (.int x) (.int y) Q H=Q (.bool (decide (x≤y))) H:=rfl
theorem c_gt:wcmp .Gt (.int x) (.int y) Q H=Q (.bool (decide (y<x))) H:=rfl
theorem c_ge:wcmp .GtE (.int x) (.int y) Q H=Q (.bool (decide (y≤x))) H:=rfl
theorem c_eq:wcmp .Eq (.int x) (.int y) Q H=Q (.bool (x==y)) H:=rfl
theorem c_ne:wcmp .NotEq (.int x) (.int y) Q H=Q (.bool (x != y)) H:=rfl
theorem Zcg:wcmp .Eq (.str a) (.str b) Q H=Q (.bool (a==b)) H:=rfl
theorem Zds:wcmp .NotEq (.str a) (.str b) Q H=Q (.bool (a != b)) H:=rfl
theorem c_in {u v:AV}:wcmp .In u v Q H=win false u v Q H:=rfl
theorem Zc7 {u v:AV}:wcmp .NotIn u v Q H=win true u v Q H:=rfl
theorem Zaj {H:Zaa} {P:Bool→Prop} {t:Bool}:Zbb (.bool t) H P=P t:=rfl
theorem Zd8 {H:Zaa} {P:Bool→Prop} {i:Int}:Zbb (.int i) H P=P (i != 0):=rfl
theorem Zcp {H:Zaa} {P:Bool→Prop}:Zbb .none H P=P false:=rfl
end
theorem script_get {P:Params} {h:Heap} {sp:Addr} {xs:List PyData} {vs:List Value} (W:Well P h (.ref sp) (ofPy (.list xs))) (L:h.IsList sp vs.toArray):h.get? sp=some { cls:=.type "list",data:=.seq vs.toArray }:=by
 obtain ⟨o,ho,hc,n,hd⟩:=L;rw [ofPy] at W;cases W with
 | list h1 _=>rw [ho] at h1;cases h1;cases hd;exact ho
theorem scriptH_at {sp:Addr} {ns:List Int}:Ze7 sp ns sp=some (.script ns):=by unfold Ze7;exact rl (if_pos rfl) rfl
end Mine
end
section
namespace Mine
noncomputable def Zxl (x:Obj):BT→BT
 | .nil=>.node x .nil .nil
 | .node y l r=>.node x (Zxl y r) l
noncomputable def ofL:List Obj→BT
 | []=>.nil
 | x::xs=>Zxl x (ofL xs)
theorem get_odd {v:Obj} {l r:BT} {k:Nat}:(BT.node v l r).get (2*k+1)=l.get k:=by
 rw [BT.get_node,if_neg (Nat.succ_ne_zero _),if_pos (Nat.mul_add_mod 2 k 1),show (2*k+1) / 2=k from Nat.mul_add_div (by decide) k 1]
theorem get_even {v:Obj} {l r:BT} {k:Nat}:(BT.node v l r).get (2*k+2)=r.get k:=by
 rw [BT.get_node,if_neg (Nat.succ_ne_zero _),if_neg (by rw [Nat.add_mod_right,Nat.mul_mod_right];decide),show (2*k+2) / 2 - 1=k by rw [Nat.add_div_right _ (by decide),Nat.mul_div_cancel_left _ (by decide)];rfl]
theorem Zrg:∀ i:Nat,i=0∨∃ k,i=2*k+1∨i=2*k+2
 | 0=>.inl rfl
 | 1=>.inr ⟨0,.inl rfl⟩
 | i+2=>.inr (match Zrg i with
  | .inl h=>⟨0,.inr (congrArg (· + 2) h)⟩
  | .inr ⟨k,.inl h⟩=>⟨k+1,.inl (congrArg (· + 2) h)⟩
  | .inr ⟨k,.inr h⟩=>⟨k+1,.inr (congrArg (· + 2) h)⟩)
theorem Zk2:∀ (t:BT) (x:Obj) (i:Nat),(Zxl x t).get i=if i=0 then some x else t.get (i - 1)
 | .nil,x,i=>by
  rcases Zrg i with rfl | ⟨k,rfl | rfl⟩
  ·rfl
  ·exact get_odd
  ·exact get_even
 | .node y l r,x,i=>by
  rcases Zrg i with rfl | ⟨k,rfl | rfl⟩
  ·rfl
  ·refine get_odd.trans ?_;rw [Zk2 r y,if_neg (Nat.succ_ne_zero _)];cases k with
   | zero=>rfl
   | succ j=>exact get_even.symm
  ·exact get_even.trans (get_odd (v:=y) (r:=r)).symm
theorem Zri:∀ (l:List Obj) (i:Nat),(ofL l).get i=l[i]?
 | [],i=>by simp [ofL,BT.get]
 | x::xs,i=>by
  unfold ofL;rw [Zk2,Zri xs];cases i with
  | zero=>simp
  | succ n=>simp
theorem Zxq (h:Heap):absHeap (ofL h.objs.toList) h.objs.size h.life=h:=by
 obtain ⟨⟨l⟩,life⟩:=h;unfold absHeap BT.list;have:(List.range l.length).map (fun i=>((ofL l).get i).getD default)=l:=by
  apply List.ext_getElem?;intro i;rw [getElem?_map];by_cases h:i<l.length
  ·rw [List.getElem?_range h,map_some,Zri];simp [h]
  ·rw [List.getElem?_eq_none (by simpa using h),List.getElem?_eq_none (by omega)];rfl
 exact congrArg (fun x:List Obj=>Heap.mk x.toArray life) this
noncomputable def Zhd (tb:String→Option Builtin) (p:Program) (w:World) (n₀:Nat) (ann:Option Value):Nat→SharedT→Thread→Option SharedT
 | 0,_,_=>none
 | n+1,s,t=>match through t with
  | true=>some s
  | false=>match stepOk n₀ ann t with
   | false=>none
   | true=>match stepT (denote tb) p w s t with
    | some (s',t')=>Zhd tb p w n₀ ann n s' t'
    | none=>none
theorem Zj9 {tb:String→Option Builtin} {p:Program} {w:World} {n₀:Nat} {ann:Option Value}:∀ {n:Nat} {s s':SharedT} {t:Thread},Zhd tb p w n₀ ann n s t=some s'→topRun tb p w n₀ ann n s.abs t=some s'.abs
 | 0,_,_,_,h=>by cases h
 | n+1,s,s',t,h=>by
  unfold Zhd at h;unfold topRun;cases he:through t with
  | true=>rw [he] at h;obtain rfl:=osi h;rfl
  | false =>
   rw [he] at h;cases hk:stepOk n₀ ann t with
   | false=>rw [hk] at h;cases h
   | true =>
    rw [hk] at h;cases hs:stepT (denote tb) p w s t with
    | none=>rw [hs] at h;cases h
    | some r=>obtain ⟨s₂,t₂⟩:=r;rw [hs] at h;rw [stepT_spec hs];exact Zj9 h
noncomputable def Zjg (p:Program) (w:World) (n₀:Nat) (ann:Option Value):Nat→SharedT→Thread→Option SharedT
 | 0,_,_=>none
 | n+1,s,t=>match through t with
  | true=>some s
  | false=>match Fast.tw6613529449190102663 n₀ ann t with
   | false=>none
   | true=>match Fast.tw10156331382660048174 (Fast.tw11892475500146522536 Fast.tw14364793385576792824) p w s t with
    | some (s',t')=>Zjg p w n₀ ann n s' t'
    | none=>none
theorem Zip {p:Program} {w:World} {n₀:Nat} {ann:Option Value}:∀ (n:Nat) (s:SharedT) (t:Thread),Zjg p w n₀ ann n s t=Zhd treeTable p w n₀ ann n s t
 | 0,_,_=>rfl
 | n+1,s,t=>by
  rw [Zjg,Zhd,← Fast.te6613529449190102663,← Fast.te10156331382660048174,← Fast.te11892475500146522536,← Fast.te14364793385576792824];cases through t with
  | true=>rfl
  | false =>
   cases stepOk n₀ ann t with
   | false=>rfl
   | true =>
    cases stepT (denote treeTable) p w s t with
    | none=>rfl
    | some r=>exact Zip n r.1 r.2
noncomputable def Zxk (w:World) (os:OsState):SharedT:=⟨ofL (boot_heap w.params).objs.toList,(boot_heap w.params).objs.size,(boot_heap w.params).life,Array.mk [],boot_drawn,boot_toks,os⟩
theorem Zwt {p q:Program} {loose:List Str} {Xt:Shared→Bool} {α:Type} {Yf:Shared→α} {YT:SharedT→α} {Ya:World→α} {N:Nat} {g0:Bool} {ann:Option Value} {m₀:Nat} (hY:∀ s,Yf s.abs=YT s)
  (e:opening p=plainProg p.main.scope.names) (hN:Nat.ble 600 N=true) (f:∀ s,fenceModules? p s=some s)
  (size:∀ w:World,((boot_heap w.params).isNs mainGlobals,(boot_heap w.params).objs.size,(boot_heap w.params).nsMap mainGlobals "__annotations__")=(true,m₀,ann))
  (run:∀ (w:World) (os:OsState),(Zjg p w m₀ ann N (Zxk w os) (topStub p)).map (fun s =>
   (staticsOk (importedModules p.main.body) (boot_heap w.params) s.abs.heap&&namesBound p s.abs.heap&&gensDone s.abs&&laidKept (boot_heap w.params) s.abs.heap,Fast.tw4187177175401517315 q loose (importedModules p.main.body) Xt g0 s.abs,YT s))=some (true,openGood q loose,Ya w)) :
  LeftO p q loose Xt Yf Ya N g0:=fun w=>by
 obtain ⟨⟨h,gs,d,k,os⟩,e1,e2⟩:=map_eq_some_iff.mp (boot_open e hN f w);obtain ⟨rfl,rfl,rfl,rfl⟩:h=boot_heap w.params∧gs=Array.mk []∧d=boot_drawn∧k=boot_toks:=by simpa using e2
 obtain ⟨z1,z2,z3⟩:_∧_∧_:=by simpa only [Prod.mk.injEq] using size w
 obtain ⟨s₁,r1,r2⟩:=map_eq_some_iff.mp (run w os);obtain ⟨l1,l2,l3⟩:_∧_∧_:=by simpa only [Prod.mk.injEq] using r2
 rw [Zip] at r1;rw [← Fast.te4187177175401517315] at l2;have r3:=Zj9 r1;have ab:(Zxk w os).abs=⟨boot_heap w.params,Array.mk [],boot_drawn,boot_toks,os⟩:=by
  unfold Zxk SharedT.abs;rw [Zxq]
 rw [ab] at r3;have t:topFrom treeTable p w N ⟨boot_heap w.params,Array.mk [],boot_drawn,boot_toks,os⟩=some s₁.abs:=by
  unfold topFrom;dsimp only;rw [z1,z2,z3,r3];show (match staticsOk (importedModules p.main.body) (boot_heap w.params) s₁.abs.heap&&namesBound p s₁.abs.heap&&gensDone s₁.abs&&laidKept (boot_heap w.params) s₁.abs.heap with | true=>_ | false=>_)=_;rw [l1]
 unfold openEnds;rw [e1];show (topFrom treeTable p w N _).map _=_;rw [t];exact congrArg some (Prod.ext l2 ((hY s₁).trans l3))
end Mine
end
section
namespace Mine
noncomputable def Zk5 (h:Heap) (as:List Addr):Frag:=as.filterMap fun a=>(h.get? a).map fun o=>(a,o)
theorem Zrk {h:Heap} {as:List Addr}:(Zk5 h as).In h:=by
 intro a o e
 induction as with
 | nil=>cases e
 | cons b r ih =>
  unfold Zk5 at e ih;rw [filterMap_cons] at e;cases hb:h.get? b with
  | none=>rw [hb] at e;exact ih e
  | some ob =>
   rw [hb] at e;simp only [map_some] at e;rw [lookup_cons] at e;cases hab:a==b with
   | true=>rw [hab] at e;obtain rfl:=osi e;refine rl (beq_iff_eq.mp hab) ?_;exact hb
   | false=>rw [hab] at e;exact ih e
theorem Zus {t:BT} {n:Nat} {life:Life} {a:Nat}:(absHeap t n life).get? a=if a<n then alive ((t.get a).getD default) else none:=by
 unfold Heap.get?;refine rl (absHeap_at ..) ?_;by_cases h:a<n
 ·refine rl (if_pos h ..) (rl (if_pos h ..) ?_);generalize (t.get a).getD default=o;obtain ⟨c,d,dt,sl⟩:=o;cases dt<;>rfl
 ·exact rl (if_neg h) (rl (if_neg h) rfl)
noncomputable def Zoy (t:BT) (n:Nat):List Addr→Frag
 | []=>[]
 | a::r=>match Nat.blt a n with
  | true=>(match alive ((t.get a).getD default) with
   | some o=>(a,o)::Zoy t n r
   | none=>Zoy t n r)
  | false=>Zoy t n r
theorem Zns {t:BT} {n:Nat} {life:Life}:∀ {as:List Addr},Zk5 (absHeap t n life) as=Zoy t n as
 | []=>rfl
 | a::r=>by
  have ih:=Zns (t:=t) (n:=n) (life:=life) (as:=r);unfold Zk5 at ih ⊢;rw [filterMap_cons,Zoy,ih,Zus];cases h:Nat.blt a n with
  | true =>
   rw [if_pos (show a<n from Nat.le_of_ble_eq_true h)];cases alive ((t.get a).getD default)<;>rfl
  | false =>
   rw [if_neg (fun q=>by rw [show Nat.blt a n=true from Nat.ble_eq_true_of_le q] at h;contradiction)];rfl
noncomputable def Znf (P:Pg) (as:List Addr):Hook where
 α:=Bool
 obs s:=Zoj (Zk5 s.heap as) P
 val _:=true
 says _ h:=∃ K:Frag,K.In h∧Zoj K P=true
 of _ s e:=⟨_,Zrk,e⟩
 keeps _ _ _:=fun ⟨K,a,b⟩ k=>⟨K,Frag.In.keeps a k,b⟩
theorem Zol {P:Pg} {as:List Addr} (s:SharedT):(Znf P as).obs s.abs=Zoj (Zoy s.tree s.n as) P:=congrArg (Zoj · P) Zns
end Mine
end
section
namespace Mine
def Gh (H H':Zaa):Prop:=∀ H₁,Real H H₁→Real H' H₁
theorem Gh.refl {H:Zaa}:Gh H H:=fun _ r=>r
theorem Gh.less {H H':Zaa} (k:∀ a x,H' a=some x→H a=some x):Gh H H':=fun _ r=>r.less k
theorem St.gh {c:Cx} {R:RR} {H H':Zaa} {h:Heap} (S:St c R H h) (g:Gh H H'):St c R H' h:=let ⟨H₁,s,r⟩:=S;⟨H₁,s,g H₁ r⟩
theorem ExcSt.gh {c:Cx} {R:RR} {H H':Zaa} {e:Addr} {cl:String} {fl:Value} {h:Heap} (X:ExcSt c R H e cl fl h) (g:Gh H H'):ExcSt c R H' e cl fl h:=let ⟨H₁,s,r⟩:=X;⟨H₁,s,g H₁ r⟩
theorem CallOK.post {c:Cx} {n:Nat} {md:Bool} {f:String} {args:List AV} {Q Q':AV→Zaa→Prop} {E E':String→Zaa→Prop} {H:Zaa} (h:CallOK c n md f args Q E H) (k:∀ v H,Q v H→∃ H',Gh H H'∧Q' v H') (e:∀ cl H,E cl H→∃ H',Gh H H'∧E' cl H'):CallOK c n md f args Q' E' H :=
 fun A stk R s vals Rs a b d v p q=>h A stk R s vals Rs a b d v (fun av v s' H' x y z w=>let ⟨H'',g,w'⟩:=k _ _ w;p av v s' H'' x (y.gh g) z w') (fun ee cl s' H' x y z=>let ⟨H'',g,w'⟩:=e _ _ z;q ee cl s' H'' (x.gh g) y w')
structure Fr1 (o:Addr→Option Role) (H:Zaa) (o':Addr→Option Role) (H':Zaa):Prop where
 old:∀ a x,H a=some x→o a=none→H' a=some x∧o' a=none
 gr:∀ a,H' a=none→H a=none
theorem Zdm {H:Zaa} {x a:Addr} {y:AObj} (h:up H x y a=none):H a=none:=by
 by_cases e:a=x
 ·rw [e,Zac] at h;cases h
 ·rw [Zab e] at h;exact h
theorem Fr1.refl {o:Addr→Option Role} {H:Zaa}:Fr1 o H o H:=⟨fun _ _ h k=>⟨h,k⟩,fun _ h=>h⟩
theorem Fr1.trans {o o' o'':Addr→Option Role} {H H' H'':Zaa} (x:Fr1 o H o' H') (y:Fr1 o' H' o'' H''):Fr1 o H o'' H'':=⟨fun a z h k=>y.old a z (x.old a z h k).1 (x.old a z h k).2,fun a h=>x.gr a (y.gr a h)⟩
theorem Zb6 {c:Cx} {n:Nat} {md:Bool} {f:String} {args:List AV} {Q:AV→Zaa→Prop} {E:String→Zaa→Prop} {H:Zaa} {b:Addr} {B:Bk} (hb:H b=some (.book B))
  (h:∀ H₂ o f' s p as,IsBook o H₂ b f' s p as B→(∀ a x,H a=some x→a≠b→H₂ a=some x∧o a=none) →
   CallOK c n md f args
    (fun v H'=>∃ o' f' s p as B',IsBook o' H' b f' s p as B'∧Fr1 o H₂ o' H'∧((∀ a,v≠.ref a)∧Q v (up H b (.book B'))∨∃ z xs,v = .ref z∧H z=none∧H' z=some (.list xs)∧o' z=none∧Q v (up (up H b (.book B')) z (.list xs))))
    (fun cl H'=>∃ o' f' s p as B',IsBook o' H' b f' s p as B'∧Fr1 o H₂ o' H'∧E cl (up H b (.book B'))) H₂):CallOK c n md f args Q E H:=by
 intro A stk R s vals Rs a1 a2 S a4 kQ kE;obtain ⟨H₁,S1,r⟩:=S;obtain ⟨H₂,o,f',sa,p,as,r2,ib,hold⟩:=r.unpack hb;have back:∀ H' o' f' s p as B',IsBook o' H' b f' s p as B'→Fr1 o H₂ o' H'→Gh H' (up H b (.book B')):=fun H' o' f' s p as B' ib' fr H₁ r=>by
  refine r.pack ib' fun a x e=>?_;by_cases z:a=b
  ·subst z;rw [Zac] at e;cases e;exact .inl ⟨rfl,rfl⟩
  ·rw [Zab z] at e;obtain ⟨e1,e2⟩:=hold a x e z;obtain ⟨e3,e4⟩:=fr.old a x e1 e2;exact .inr ⟨z,e4,e3⟩
 refine (CallOK.post (h H₂ o f' sa p as ib hold) (fun v H' q=>?_) fun cl H' q=>?_) A stk R s vals Rs a1 a2 ⟨H₁,S1,r2⟩ a4 kQ kE
 ·obtain ⟨o',f',s,p,as,B',ib',fr,q | ⟨z,xs,rfl,hz,hz',ho,q⟩⟩:=q
  ·exact ⟨_,back _ _ _ _ _ _ _ ib' fr,q.2⟩
  ·refine ⟨_,fun H₁ r=>?_,q⟩;refine r.pack ib' fun a x e=>?_;have hzb:z≠b:=fun w=>by rw [w,hb] at hz;cases hz
   by_cases w:a=z
   ·subst w;rw [Zac] at e;cases e;exact .inr ⟨hzb,ho,hz'⟩
   ·rw [Zab w] at e;by_cases y:a=b
    ·subst y;rw [Zac] at e;cases e;exact .inl ⟨rfl,rfl⟩
    ·rw [Zab y] at e;obtain ⟨e1,e2⟩:=hold a x e y;obtain ⟨e3,e4⟩:=fr.old a x e1 e2;exact .inr ⟨y,e4,e3⟩
 ·obtain ⟨o',f',s,p,as,B',ib',fr,q⟩:=q;exact ⟨_,back _ _ _ _ _ _ _ ib' fr,q⟩
end Mine
end
section
end
section
namespace Mine.BK
noncomputable def f_are_met:Fn:=⟨4,["names","needs","kept","done","found","name"],[
 .assign (.var 4) (.list []),
 .for (.var 5) (.var 0) [.ite (.cmp .Eq (.comp (.var 6) 1 false (.sub (.var 1) (.var 5)) (some (.ao true [(.cmp .NotIn (.var 6) (.var 2)),(.cmp .NotIn (.var 6) (.var 3))]))) (.list [])) [.expr (.bm (.var 4) .append [(.var 5)])] []],
 .ret (.var 4)]⟩
noncomputable def f_table_of:Fn:=⟨1,["names","table","name"],[
 .assign (.var 1) (.dict [] []),
 .for (.var 2) (.var 0) [.assign (.sub (.var 1) (.var 2)) (.lit (.bool true))],
 .ret (.var 1)]⟩
noncomputable def f_greatest:Fn:=⟨3,["full","needs","done","ready","names","found"],[
 .assign (.var 3) (.call "table_of" [(.var 2)]),
 .assign (.var 4) (.prim .list [(.var 0)]),
 .assign (.var 5) (.call "are_met" [(.var 4),(.var 1),(.call "table_of" [(.var 4)]),(.var 3)]),
 .while (.cmp .Lt (.prim .len [(.var 5)]) (.prim .len [(.var 4)])) [.assign (.var 4) (.var 5),
  .assign (.var 5) (.call "are_met" [(.var 4),(.var 1),(.call "table_of" [(.var 4)]),(.var 3)])],
 .ret (.var 5)]⟩
noncomputable def f_is_whole:Fn:=⟨1,["thing"],[
 .ret (.ao true [(.isinst (.var 0) "int"),(.not (.isinst (.var 0) "bool"))])]⟩
noncomputable def f_is_name:Fn:=⟨1,["thing","sign"],[
 .ite (.ao false [(.not (.isinst (.var 0) "str")),(.not (.cmp2 .LtE .LtE (.lit (.int 1)) (.prim .len [(.var 0)]) (.glob "MOST_SIGNS")))]) [.ret (.lit (.bool false))] [],
 .for (.var 1) (.var 0) [.ite (.cmp .NotIn (.var 1) (.glob "LETTERS")) [.ret (.lit (.bool false))] []],
 .ret (.lit (.bool true))]⟩
noncomputable def f_name_of:Fn:=⟨1,["thing"],[
 .ite (.not (.call "is_name" [(.var 0)])) [.raise "NoName" (ofString "no name")] [],
 .ret (.var 0)]⟩
noncomputable def f_amount_of:Fn:=⟨1,["thing"],[
 .ite (.ao false [(.not (.call "is_whole" [(.var 0)])),(.not (.cmp2 .LtE .LtE (.lit (.int 1)) (.var 0) (.glob "MOST_AMOUNT")))]) [.raise "NoAmount" (ofString "no amount")] [],
 .ret (.var 0)]⟩
noncomputable def f_Pact___init__:Fn:=⟨6,["self","name","parts","gains","needs","last"],[
 .assign (.attr (.var 0) "name") (.var 1),
 .assign (.attr (.var 0) "parts") (.var 2),
 .assign (.attr (.var 0) "gains") (.var 3),
 .assign (.attr (.var 0) "needs") (.var 4),
 .assign (.attr (.var 0) "last") (.var 5),
 .assign (.attr (.var 0) "state") (.lit (.str (ofString "open"))),
 .assign (.attr (.var 0) "inside") (.dict [] [])]⟩
noncomputable def f_Pact_part_of:Fn:=⟨2,["self","purse","pair"],[
 .for (.var 2) (.attr (.var 0) "parts") [.ite (.cmp .Eq (.sub (.var 2) (.lit (.int 0))) (.var 1)) [.ret (.sub (.var 2) (.lit (.int 1)))] []],
 .ret (.lit .none)]⟩
noncomputable def f_Pact_is_full:Fn:=⟨1,["self"],[
 .ret (.ao true [(.cmp .Eq (.attr (.var 0) "state") (.lit (.str (ofString "open")))),(.cmp .Eq (.prim .len [(.attr (.var 0) "inside")]) (.prim .len [(.attr (.var 0) "parts")]))])]⟩
noncomputable def f_Book___init__:Fn:=⟨1,["self"],[
 .assign (.attr (.var 0) "day") (.lit (.int 0)),
 .assign (.attr (.var 0) "free") (.dict [] []),
 .assign (.attr (.var 0) "aside") (.dict [] []),
 .assign (.attr (.var 0) "pacts") (.dict [] [])]⟩
noncomputable def f_Book_need_purse:Fn:=⟨2,["self","purse"],[
 .ite (.ao false [(.not (.call "is_name" [(.var 1)])),(.cmp .NotIn (.var 1) (.attr (.var 0) "free"))]) [.raise "NoPurse" (ofString "no such purse")] []]⟩
noncomputable def f_Book_need_pact:Fn:=⟨2,["self","pact"],[
 .ite (.ao false [(.not (.call "is_name" [(.var 1)])),(.cmp .NotIn (.var 1) (.attr (.var 0) "pacts"))]) [.raise "NoPact" (ofString "no such pact")] [],
 .ret (.sub (.attr (.var 0) "pacts") (.var 1))]⟩
noncomputable def f_Book_need_open:Fn:=⟨2,["self","pact","found"],[
 .assign (.var 2) (.meth (.var 0) "need_pact" [(.var 1)]),
 .ite (.cmp .NotEq (.attr (.var 2) "state") (.lit (.str (ofString "open")))) [.raise "NotOpen" (ofString "the pact isn't open")] [],
 .ret (.var 2)]⟩
noncomputable def f_Book_open_purse:Fn:=⟨2,["self","name"],[
 .expr (.call "name_of" [(.var 1)]),
 .ite (.cmp .In (.var 1) (.attr (.var 0) "free")) [.raise "Taken" (ofString "there is such a purse")] [],
 .assign (.sub (.attr (.var 0) "free") (.var 1)) (.lit (.int 0)),
 .assign (.sub (.attr (.var 0) "aside") (.var 1)) (.lit (.int 0))]⟩
noncomputable def f_Book_put:Fn:=⟨3,["self","purse","amount"],[
 .expr (.meth (.var 0) "need_purse" [(.var 1)]),
 .assign (.sub (.attr (.var 0) "free") (.var 1)) (.bin .Add (.sub (.attr (.var 0) "free") (.var 1)) (.call "amount_of" [(.var 2)]))]⟩
noncomputable def f_Book_pairs_of:Fn:=⟨2,["self","pairs","found","seen","pair"],[
 .ite (.not (.cmp2 .LtE .LtE (.lit (.int 1)) (.prim .len [(.var 1)]) (.glob "MOST"))) [.raise "NoRow" (ofString "one to eight pairs are wanted")] [],
 .assign (.var 2) (.list []),
 .assign (.var 3) (.dict [] []),
 .for (.var 4) (.var 1) [.expr (.meth (.var 0) "need_purse" [(.sub (.var 4) (.lit (.int 0)))]),
  .ite (.cmp .In (.sub (.var 4) (.lit (.int 0))) (.var 3)) [.raise "Twice" (ofString "a purse stands twice")] [],
  .assign (.sub (.var 3) (.sub (.var 4) (.lit (.int 0)))) (.lit (.bool true)),
  .expr (.bm (.var 2) .append [(.tuple [(.sub (.var 4) (.lit (.int 0))),(.call "amount_of" [(.sub (.var 4) (.lit (.int 1)))])])])],
 .ret (.var 2)]⟩
noncomputable def f_Book_needs_of:Fn:=⟨3,["self","name","needs","seen","one"],[
 .ite (.cmp .Gt (.prim .len [(.var 2)]) (.glob "MOST")) [.raise "NoRow" (ofString "up to eight needs are wanted")] [],
 .assign (.var 3) (.dict [(.var 1)] [(.lit (.bool true))]),
 .for (.var 4) (.var 2) [.expr (.call "name_of" [(.var 4)]),
  .ite (.cmp .In (.var 4) (.var 3)) [.raise "Twice" (ofString "a need stands twice")] [],
  .assign (.sub (.var 3) (.var 4)) (.lit (.bool true)),
  .ite (.ao true [(.cmp .In (.var 4) (.attr (.var 0) "pacts")),(.cmp .Eq (.attr (.sub (.attr (.var 0) "pacts") (.var 4)) "state") (.lit (.str (ofString "fallen"))))]) [.raise "Fallen" (ofString "a need has fallen")] []],
 .ret (.prim .list [(.var 2)])]⟩
noncomputable def f_Book_tell:Fn:=⟨6,["self","name","parts","gains","needs","last","ones","others","wanted"],[
 .expr (.call "name_of" [(.var 1)]),
 .ite (.cmp .In (.var 1) (.attr (.var 0) "pacts")) [.raise "Taken" (ofString "there is such a pact")] [],
 .assign (.var 6) (.meth (.var 0) "pairs_of" [(.var 2)]),
 .assign (.var 7) (.meth (.var 0) "pairs_of" [(.var 3)]),
 .ite (.cmp .NotEq (.prim .sum [(.comp (.sub (.var 9) (.lit (.int 1))) 1 false (.var 6) none)]) (.prim .sum [(.comp (.sub (.var 9) (.lit (.int 1))) 1 false (.var 7) none)])) [.raise "Uneven" (ofString "parts and gains come to different sums")] [],
 .assign (.var 8) (.meth (.var 0) "needs_of" [(.var 1),(.var 4)]),
 .ite (.ao false [(.not (.call "is_whole" [(.var 5)])),(.cmp .Lt (.var 5) (.attr (.var 0) "day"))]) [.raise "NoDay" (ofString "no day from now on")] [],
 .assign (.sub (.attr (.var 0) "pacts") (.var 1)) (.new "Pact" [(.var 1),(.var 6),(.var 7),(.var 8),(.var 5)])]⟩
noncomputable def f_Book_set_aside:Fn:=⟨3,["self","purse","pact","found","amount"],[
 .expr (.meth (.var 0) "need_purse" [(.var 1)]),
 .assign (.var 3) (.meth (.var 0) "need_open" [(.var 2)]),
 .assign (.var 4) (.meth (.var 3) "part_of" [(.var 1)]),
 .ite (.cmp .Is (.var 4) (.lit .none)) [.raise "NoPart" (ofString "the pact has no part of that purse")] [],
 .ite (.cmp .In (.var 1) (.attr (.var 3) "inside")) [.raise "Already" (ofString "the part is set aside already")] [],
 .ite (.cmp .Lt (.sub (.attr (.var 0) "free") (.var 1)) (.var 4)) [.raise "TooLittle" (ofString "less is free")] [],
 .assign (.sub (.attr (.var 3) "inside") (.var 1)) (.lit (.bool true)),
 .assign (.sub (.attr (.var 0) "free") (.var 1)) (.bin .Sub (.sub (.attr (.var 0) "free") (.var 1)) (.var 4)),
 .assign (.sub (.attr (.var 0) "aside") (.var 1)) (.bin .Add (.sub (.attr (.var 0) "aside") (.var 1)) (.var 4))]⟩
noncomputable def f_Book_given_back:Fn:=⟨3,["self","purse","amount"],[
 .assign (.sub (.attr (.var 0) "aside") (.var 1)) (.bin .Sub (.sub (.attr (.var 0) "aside") (.var 1)) (.var 2)),
 .assign (.sub (.attr (.var 0) "free") (.var 1)) (.bin .Add (.sub (.attr (.var 0) "free") (.var 1)) (.var 2))]⟩
noncomputable def f_Book_fell:Fn:=⟨2,["self","pact","pair"],[
 .for (.var 2) (.attr (.var 1) "parts") [.ite (.cmp .In (.sub (.var 2) (.lit (.int 0))) (.attr (.var 1) "inside")) [.expr (.meth (.var 0) "given_back" [(.sub (.var 2) (.lit (.int 0))),(.sub (.var 2) (.lit (.int 1)))])] []],
 .assign (.attr (.var 1) "inside") (.dict [] []),
 .assign (.attr (.var 1) "state") (.lit (.str (ofString "fallen"))),
 .ret (.attr (.var 1) "name")]⟩
noncomputable def f_Book_first_dragged:Fn:=⟨1,["self","pact","need"],[
 .for (.var 1) (.prim .list [(.bm (.attr (.var 0) "pacts") .values [])]) [.ite (.cmp .Eq (.attr (.var 1) "state") (.lit (.str (ofString "open")))) [.for (.var 2) (.attr (.var 1) "needs") [.ite (.ao true [(.cmp .In (.var 2) (.attr (.var 0) "pacts")),(.cmp .Eq (.attr (.sub (.attr (.var 0) "pacts") (.var 2)) "state") (.lit (.str (ofString "fallen"))))]) [.ret (.var 1)] []]] []],
 .ret (.lit .none)]⟩
noncomputable def f_Book_dragged:Fn:=⟨2,["self","names","found","pact"],[
 .assign (.var 2) (.prim .list [(.var 1)]),
 .assign (.var 3) (.meth (.var 0) "first_dragged" []),
 .while (.cmp .IsNot (.var 3) (.lit .none)) [.expr (.bm (.var 2) .append [(.meth (.var 0) "fell" [(.var 3)])]),
  .assign (.var 3) (.meth (.var 0) "first_dragged" [])],
 .ret (.var 2)]⟩
noncomputable def f_Book_call_off:Fn:=⟨2,["self","pact"],[
 .ret (.meth (.var 0) "dragged" [(.list [(.meth (.var 0) "fell" [(.meth (.var 0) "need_open" [(.var 1)])])])])]⟩
noncomputable def f_Book_standing:Fn:=⟨1,["self","ready","needs","done","pact"],[
 .assign (.var 1) (.list []),
 .assign (.var 2) (.dict [] []),
 .assign (.var 3) (.list []),
 .for (.var 4) (.prim .list [(.bm (.attr (.var 0) "pacts") .values [])]) [.ite (.meth (.var 4) "is_full" []) [.expr (.bm (.var 1) .append [(.attr (.var 4) "name")]),
   .assign (.sub (.var 2) (.attr (.var 4) "name")) (.prim .list [(.attr (.var 4) "needs")])] [],
  .ite (.cmp .Eq (.attr (.var 4) "state") (.lit (.str (ofString "done")))) [.expr (.bm (.var 3) .append [(.attr (.var 4) "name")])] []],
 .ret (.tuple [(.var 1),(.var 2),(.var 3)])]⟩
noncomputable def f_Book_settle:Fn:=⟨1,["self","found","names","name","pact","pair"],[
 .assign (.var 1) (.meth (.var 0) "standing" []),
 .assign (.var 2) (.call "greatest" [(.sub (.var 1) (.lit (.int 0))),(.sub (.var 1) (.lit (.int 1))),(.sub (.var 1) (.lit (.int 2)))]),
 .for (.var 3) (.var 2) [.assign (.var 4) (.sub (.attr (.var 0) "pacts") (.var 3)),
  .for (.var 5) (.attr (.var 4) "parts") [.assign (.sub (.attr (.var 0) "aside") (.sub (.var 5) (.lit (.int 0)))) (.bin .Sub (.sub (.attr (.var 0) "aside") (.sub (.var 5) (.lit (.int 0)))) (.sub (.var 5) (.lit (.int 1))))],
  .for (.var 5) (.attr (.var 4) "gains") [.assign (.sub (.attr (.var 0) "free") (.sub (.var 5) (.lit (.int 0)))) (.bin .Add (.sub (.attr (.var 0) "free") (.sub (.var 5) (.lit (.int 0)))) (.sub (.var 5) (.lit (.int 1))))],
  .assign (.attr (.var 4) "inside") (.dict [] []),
  .assign (.attr (.var 4) "state") (.lit (.str (ofString "done")))],
 .ret (.var 2)]⟩
noncomputable def f_Book_purses:Fn:=⟨1,["self"],[
 .ret (.prim .list [(.attr (.var 0) "free")])]⟩
noncomputable def f_Book_told:Fn:=⟨1,["self"],[
 .ret (.prim .list [(.attr (.var 0) "pacts")])]⟩
noncomputable def f_Book_free_of:Fn:=⟨2,["self","purse"],[
 .expr (.meth (.var 0) "need_purse" [(.var 1)]),
 .ret (.sub (.attr (.var 0) "free") (.var 1))]⟩
noncomputable def f_Book_aside_of:Fn:=⟨2,["self","purse"],[
 .expr (.meth (.var 0) "need_purse" [(.var 1)]),
 .ret (.sub (.attr (.var 0) "aside") (.var 1))]⟩
noncomputable def f_Book_state_of:Fn:=⟨2,["self","pact"],[
 .ret (.attr (.meth (.var 0) "need_pact" [(.var 1)]) "state")]⟩
noncomputable def f_Book_inside_of:Fn:=⟨2,["self","pact","found"],[
 .assign (.var 2) (.meth (.var 0) "need_pact" [(.var 1)]),
 .ret (.comp (.sub (.var 3) (.lit (.int 0))) 1 false (.attr (.var 2) "parts") (some (.cmp .In (.sub (.var 3) (.lit (.int 0))) (.attr (.var 2) "inside"))))]⟩
noncomputable def f_Book_full:Fn:=⟨2,["self","pact"],[
 .ret (.meth (.meth (.var 0) "need_pact" [(.var 1)]) "is_full" [])]⟩
noncomputable def f_Book_pass_days:Fn:=⟨2,["self","count","names","pact"],[
 .ite (.ao false [(.not (.call "is_whole" [(.var 1)])),(.cmp .Lt (.var 1) (.lit (.int 1)))]) [.raise "NoDay" (ofString "no count of days")] [],
 .assign (.attr (.var 0) "day") (.bin .Add (.attr (.var 0) "day") (.var 1)),
 .assign (.var 2) (.list []),
 .for (.var 3) (.prim .list [(.bm (.attr (.var 0) "pacts") .values [])]) [.ite (.ao true [(.cmp .Eq (.attr (.var 3) "state") (.lit (.str (ofString "open")))),(.cmp .Lt (.attr (.var 3) "last") (.attr (.var 0) "day"))]) [.expr (.bm (.var 2) .append [(.meth (.var 0) "fell" [(.var 3)])])] []],
 .ret (.meth (.var 0) "dragged" [(.var 2)])]⟩
noncomputable def f__law_cell_at:Fn:=⟨2,["_law_script","_law_k"],[
 .ite (.cmp .Lt (.var 1) (.prim .len [(.var 0)])) [.ret (.sub (.var 0) (.var 1))] [],
 .ret (.lit (.int 0))]⟩
noncomputable def f__law_mixed:Fn:=⟨2,["_law_number","_law_k"],[
 .ret (.bin .Mod (.bin .Add (.bin .Add (.bin .Mult (.var 0) (.lit (.int 6364136223846793005))) (.bin .Mult (.var 1) (.lit (.int 1442695040888963407)))) (.lit (.int 1013904223))) (.lit (.int 2305843009213693951)))]⟩
noncomputable def f__law_whole:Fn:=⟨1,["_law_found"],[
 .ret (.ao true [(.isinst (.var 0) "int"),(.not (.isinst (.var 0) "bool"))])]⟩
end Mine.BK
namespace Mine.BK
noncomputable def consts:List (String×AV):=[("LETTERS",(.str (ofString "abcdefghijklmnopqrstuvwxyz"))),("MOST_SIGNS",(.int 12)),("MOST_AMOUNT",(.int 1000000000000000000000000000000)),("MOST",(.int 8))]
noncomputable def meths:List (String×String):=[("Pact","__init__"),("Pact","part_of"),("Pact","is_full"),("Book","__init__"),("Book","need_purse"),("Book","need_pact"),("Book","need_open"),("Book","open_purse"),("Book","put"),("Book","take"),("Book","pairs_of"),("Book","needs_of"),("Book","tell"),("Book","set_aside"),("Book","given_back"),("Book","draw_back"),("Book","fell"),("Book","first_dragged"),("Book","dragged"),("Book","call_off"),("Book","pass_days"),("Book","standing"),("Book","settle"),("Book","why_not"),("Book","purses"),("Book","told"),("Book","free_of"),("Book","aside_of"),("Book","state_of"),("Book","inside_of"),("Book","full")]
noncomputable def attrs:List (String×String):=[("Book","aside"),("Book","day"),("Book","free"),("Book","pacts"),("Pact","gains"),("Pact","inside"),("Pact","last"),("Pact","name"),("Pact","needs"),("Pact","parts"),("Pact","state")]
end Mine.BK
namespace Mine
structure HasA (P:Pg):Prop where
 meths:P.meths=BK.meths
 attrs:P.attrs=BK.attrs
 consts:P.consts=BK.consts
 is_whole:P.fns.lookup "is_whole" = some BK.f_is_whole
 is_name:P.fns.lookup "is_name" = some BK.f_is_name
 name_of:P.fns.lookup "name_of" = some BK.f_name_of
 amount_of:P.fns.lookup "amount_of" = some BK.f_amount_of
 init:P.fns.lookup "Book.__init__" = some BK.f_Book___init__
 need_purse:P.fns.lookup "Book.need_purse" = some BK.f_Book_need_purse
 open_purse:P.fns.lookup "Book.open_purse" = some BK.f_Book_open_purse
 put:P.fns.lookup "Book.put" = some BK.f_Book_put
 purses:P.fns.lookup "Book.purses" = some BK.f_Book_purses
 told:P.fns.lookup "Book.told" = some BK.f_Book_told
 free_of:P.fns.lookup "Book.free_of" = some BK.f_Book_free_of
noncomputable def Zd2:AV→Bool
 | .str s=>isNm s
 | _=>false
noncomputable def Zin:AV→Bool
 | .int _=>true
 | _=>false
noncomputable def Zc9:AV→Bool
 | .int i=>decide (1≤i∧i≤1000000000000000000000000000000)
 | _=>false
def Kn (H:Zaa) (v:AV):Prop:=(∃ k,Ze0 H v=some k)∧∀ s,v = .str s→s.length<2 ^ 62
theorem wfor {QN:VV→Zaa→Prop} {stp:AV→(VV→Zaa→Prop)→VV→Zaa→Prop} {v:AV} {V:VV} {H:Zaa} {xs:List AV} (hx:Zal H v=some xs) (I:Nat→VV→Zaa→Prop) (h0:I 0 V H)
  (hs:∀ k V' H',I k V' H'→Zdu H H' v∧(k=xs.length→QN V' H')∧∀ x,xs[k]? = some x→stp x (I (k+1)) V' H'):WFor QN stp v V H:=⟨xs,hx,I,h0,hs⟩
section
variable {c:Cx} {P:Pg} (G:Gd c P) (U:HasA P) {n:Nat} {md:Bool} {Q:AV→Zaa→Prop} {E:String→Zaa→Prop} {H:Zaa}
theorem Zt5 {v:AV} (h:Ze0 H v=some "str"):∃ s,v = .str s:=by
 cases v with
 | str s=>exact ⟨s,rfl⟩
 | ref a=>simp only [Ze0] at h;split at h<;>simp at h
 | _=>simp [Ze0] at h
theorem Zts {v:AV} {k:String} (hk:Ze0 H v=some k) (h:k≠"str"):Zd2 v=false:=by
 cases v with
 | str s=>simp [Ze0] at hk;exact absurd hk.symm h
 | _=>rfl
theorem Z0r {g:Gx} (hmd:g.md=true) {s:Str} {e:X} {V:VV} {QN:VV→Zaa→Prop} {E:String→VV→Zaa→Prop} (he:∀ V H Q E,wpX g e V Q E H=Q (.str letters) H) (hV:V=[some (.str s),none]) (h1:(s.cps.toList.all fun ch=>letters.cps.toList.contains ch)=true→∀ a,QN [some (.str s),a] H) (h2:(s.cps.toList.all fun ch=>letters.cps.toList.contains ch)=false→Q (.bool false) H) :
  wpS g (.for (.var 1) (.var 0) [.ite (.cmp .NotIn (.var 1) e) [.ret (.lit (.bool false))] []]) QN Q E V H:=by
 subst hV;simp only [Zay,Zbq,Zam,Zax,Za3,Zb3,Zb0,Zda,Zcx];refine ⟨hmd,?_⟩;dsimp only [v_0,Zai,Zad,Zar,Zbl,Za6,x_ao,Zbm,Zao,Za0,Zav,Zap,Zaz,Zan,Zak,x_bm,Zbh,Zau,Zbc,Zas,Zag,Zae,Za1,Zat,Zbn,Zbk,Zbt,Zbg,tv,tsub,tattr,wtg,Zcv,Zdh,Zdt,Zbv,Zbx,Zd5,Zcj,c_lt,c_le,c_gt,c_ge,c_eq,c_ne,Zcg,Zds,c_in,Zc7,Zaj,Zd8,Zcp,Zaw,Zby,Zay,Zbq,Zam,Zax,Za3];refine wfor (xs:=s.cps.toList.map fun ch=>AV.str ⟨#[ch]⟩) rfl (fun k V' H'=>H'=H∧(∃ a,V'=[some (.str s),a])∧∀ ch∈s.cps.toList.take k,letters.cps.toList.contains ch=true) ⟨rfl,⟨_,rfl⟩,by simp⟩ ?_;rintro k V' H' ⟨rfl,⟨a,rfl⟩,hin⟩;refine ⟨trivial,fun hk=>h1 ?_ a,fun x hx=>?_⟩
 ·rw [hk,length_map,take_length] at hin;rw [all_eq_true];exact hin
 ·rw [getElem?_map,map_eq_some_iff] at hx;obtain ⟨ch,hch,rfl⟩:=hx;dsimp only [length_cons,length_nil,Nat.reduceAdd,set_cons_succ,set_cons_zero,getElem?_cons_succ,v_0];simp [he,v_0,Zai,Zad,Zar,Zbl,Za6,x_ao,Zbm,Zao,Za0,Zav,Zap,Zaz,Zan,Zak,x_bm,Zbh,Zau,Zbc,Zas,Zag,Zae,Za1,Zat,Zbn,Zbk,Zbt,Zbg,tv,tsub,tattr,wtg,Zcv,Zdh,Zdt,Zbv,Zbx,Zd5,Zcj,c_lt,c_le,c_gt,c_ge,c_eq,c_ne,Zcg,Zds,c_in,Zc7,Zaj,Zd8,Zcp,Zaw,Zby,Zay,Zbq,Zam,Zax,Za3];refine ⟨ch,rfl,?_⟩;cases hc:letters.cps.toList.contains ch with
  | true =>
   simp only [Zaj];simp;intro ch' hch';rw [take_add_one,hch] at hch';rcases mem_append.mp hch' with h | h
   ·simpa using hin ch' h
   ·simp at h;subst h;simpa using hc
  | false =>
   simp only [Zaj];simp;apply h2;rw [List.all_eq_false];exact ⟨ch,mem_of_getElem? hch,by rw [hc];simp⟩
theorem Znk {P:Pg} {v:AV} {k ty:String} (hk:Ze0 H v=some k) (ht:ty = "int"∨ty = "bool"∨ty = "str"∨ty = "list"):Zcc P H v ty=some (k==ty||(k=="bool"&&ty=="int")):=by
 unfold Zcc;rw [if_pos ht,hk];rfl
theorem Zo7 {g:Gx} {V:VV} {i:Nat} {v:AV} {ty:String} {b:Bool} (hV:V[i]? = some (some v)) (h:Zcc g.c.P H v ty=some b) (q:Q (.bool b) H):wpX g (.isinst (.var i) ty) V Q E H:=by
 rw [Zbh,Zad,hV];show match Zcc g.c.P H v ty with | some b=>Q (.bool b) H | none=>False
 rw [h];exact q
theorem x_gl {g:Gx} {V:VV} {n:String} {v:AV} (h:g.c.P.consts.lookup n=some v) (q:Q v H):wpX g (.glob n) V Q E H:=by
 rw [Zaz,h];exact q
include G U
theorem Zgf {v:AV} (hk:Kn H v) (q:Q (.bool (Zd2 v)) H):CallOK c (n+1) true "is_name" [v] Q E H:=by
 obtain ⟨⟨k,hk⟩,hl⟩:=hk;refine G.call (F:=BK.f_is_name) U.is_name rfl ?_;have hg:c.P.consts.lookup "MOST_SIGNS" = some (.int 12):=by rw [G.hP,U.consts];rfl
 have hg2:c.P.consts.lookup "LETTERS" = some (.str letters):=by rw [G.hP,U.consts];rfl
 have hi:=Znk (P:=c.P) (ty:="str") hk (.inr (.inr (.inl rfl)));show wpSs _ _ _ _ _ [some v,none] _;refine w_st fun K nx=>?_;rw [Zay,x_ao,Zat,Za6];by_cases hks:k = "str"
 ·subst hks;obtain ⟨s,rfl⟩:=Zt5 hk;have hl:=hl s rfl;refine Zo7 (b:=true) rfl hi ?_;rw [Zaj];show wpAO _ false [_] _ _ _ _;rw [Za1,Za6,Za0,Zai,Zak,Zae,Zad];show wpXs _ [] _ _ _ _;rw [Zag,Zhw];refine ⟨hl,?_⟩;rw [c_le,Zaj];by_cases a:(1:Int)≤s.length
  ·rw [decide_eq_true a,if_pos rfl];refine x_gl hg ?_;rw [c_le,Zaj];by_cases b:(s.length:Int)≤12
   ·rw [decide_eq_true b];refine nx _ _ ?_;refine w_st fun K nx=>?_;refine Z0r rfl (fun V H Q E=>by rw [Zaz,hg2]) rfl (fun h a'=>nx _ _ ?_) (fun h=>?_)
    ·have:Zd2 (.str s)=true:=by show isNm s=true;unfold isNm;rw [h,Bool.and_true];exact decide_eq_true ⟨by lia,by lia⟩
     rw [this] at q;exact q
    ·have:Zd2 (.str s)=false:=by show isNm s=false;unfold isNm;rw [h,Bool.and_false]
     rw [this] at q;exact q
   ·rw [decide_eq_false b];have:Zd2 (.str s)=false:=by show isNm s=false;unfold isNm;rw [decide_eq_false (by lia),Bool.false_and]
    rw [this] at q;exact q
  ·rw [decide_eq_false a,if_neg Bool.false_ne_true];have:Zd2 (.str s)=false:=by show isNm s=false;unfold isNm;rw [decide_eq_false (by lia),Bool.false_and]
   rw [this] at q;exact q
 ·refine Zo7 (b:=false) rfl (by rw [hi,show (k=="str")=false from beq_false_of_ne hks];show some (false||(k=="bool"&&false))=some false;rw [Bool.and_false];rfl) ?_;rw [Zts hk hks] at q;exact q
theorem Zma {v:AV} (hk:Kn H v) (q:if Zd2 v then Q v H else E "NoName" H):CallOK c (n+2) true "name_of" [v] Q E H:=by
 refine G.call (F:=BK.f_name_of) U.name_of rfl ?_;show wpSs _ _ _ _ _ [some v] _;refine w_st fun K nx=>?_;rw [Zay,Za6,Zan,Zae,Zad];show CallOK _ _ _ _ [v] _ _ _;refine Zgf G U hk ?_;revert q;cases Zd2 v with
 | true=>exact fun q=>nx _ _ q
 | false=>exact fun q=>⟨rfl,q⟩
omit G U in
theorem Znz {v:AV} {k:String} (h:Ze0 H v=some k):Zin v=(k=="int"):=by
 cases v with
 | ref a =>
  revert h;show (match H a with | some (.list _)=>some "list" | some (.tuple _)=>some "tuple" | some (.dict ..)=>some "dict" | _=>none)=some k→_;split<;>intro h<;>cases h<;>rfl
 | _=>cases h;rfl
theorem Zfb {v:AV} (hk:Kn H v) (q:Q (.bool (Zin v)) H):CallOK c (n+1) md "is_whole" [v] Q E H:=by
 obtain ⟨⟨k,hk⟩,_⟩:=hk;refine G.call (F:=BK.f_is_whole) U.is_whole rfl ?_;show wpSs _ [_] _ _ _ [some v] _;rw [Zaw,Zbq,x_ao,Zat];refine Zo7 rfl (Znk hk (.inl rfl)) ?_;rw [Zaj];rw [Znz hk] at q;by_cases h1:k = "int"
 ·subst h1;show wpAO _ true [_] _ _ _ _;rw [Za1,Za6];exact Zo7 (b:=false) rfl (Znk hk (.inr (.inl rfl))) q
 ·by_cases h2:k = "bool"
  ·subst h2;show wpAO _ true [_] _ _ _ _;rw [Za1,Za6];exact Zo7 (b:=true) rfl (Znk hk (.inr (.inl rfl))) q
  ·rw [beq_false_of_ne h1] at q;rw [beq_false_of_ne h1,beq_false_of_ne h2];exact q
theorem Zll {v:AV} (hk:Kn H v) (q:if Zc9 v then Q v H else E "NoAmount" H):CallOK c (n+2) true "amount_of" [v] Q E H:=by
 refine G.call (F:=BK.f_amount_of) U.amount_of rfl ?_;have hg:c.P.consts.lookup "MOST_AMOUNT" = some (.int 1000000000000000000000000000000):=by rw [G.hP,U.consts];rfl
 show wpSs _ _ _ _ _ [some v] _;refine w_st fun K nx=>?_;rw [Zay,x_ao,Zat,Za6,Zan,Zae,Zad];show CallOK _ _ _ _ [v] _ _ _;refine Zfb G U hk ?_;cases v with
 | int i =>
  rw [Zaj];show wpAO _ false [_] _ _ _ _;rw [Za1,Za6,Za0,Zai,Zad];show wcmp .LtE (.int 1) (.int i) _ _;rw [c_le,Zaj];by_cases a:1≤i
  ·rw [decide_eq_true a,if_pos rfl];refine x_gl hg ?_;rw [c_le,Zaj];by_cases b:i≤1000000000000000000000000000000
   ·rw [decide_eq_true b];rw [show Zc9 (.int i)=true from decide_eq_true ⟨a,b⟩,if_pos rfl] at q;exact nx _ _ q
   ·rw [decide_eq_false b];rw [show Zc9 (.int i)=false from decide_eq_false fun h=>b h.2,if_neg Bool.false_ne_true] at q;exact ⟨rfl,q⟩
  ·rw [decide_eq_false a,if_neg Bool.false_ne_true];rw [show Zc9 (.int i)=false from decide_eq_false fun h=>a h.1,if_neg Bool.false_ne_true] at q;exact ⟨rfl,q⟩
 | _=>exact ⟨rfl,q⟩
end
end Mine
end
section
namespace Mine
theorem Zh4 {l:List (Str×Int)} {k:Str}:Zb8 (dI l) k=(lk l k).map .int:=by
 induction l with
 | nil=>rfl
 | cons e r ih =>
  unfold Zb8 lk dI at *;simp only [map_cons,find?_cons];by_cases h:e.1=k
  ·simp [h]
  ·simp [h];simpa using ih
theorem Zhn {l:List (Str×Int)} {k:Str} {i:Int}:putS (dI l) k (.int i)=dI (pt l k i):=by
 unfold putS pt;refine rl Zh4 (rl isSome_map ?_);split
 ·unfold dI;refine rl map_map (rl map_map ?_);congr 1
  funext e
  simp only [Function.comp];split<;>rfl
 ·simp [dI]
theorem Zgv {l:List (Str×Int)}:(dI l).length=l.length:=by simp [dI]
noncomputable def hs (l:List (Str×Int)) (k:Str):Bool:=(lk l k).isSome
theorem Zfv {l:List (Str×Int)} {k:Str} (h:hs l k=true):lk l k=some ((lk l k).getD 0):=by
 unfold hs at h;cases e:lk l k with
 | none=>rw [e] at h;cases h
 | some=>rfl
theorem Zcb {o:Addr→Option Role} {a b:Addr} {r r':Role} (h1:o a=some r) (h2:o b=some r') (h:r≠r'):a≠b:=fun e=>by subst e;rw [h1] at h2;obtain rfl:=osi h2;exact h rfl
theorem Zj6 {o:Addr→Option Role} {H:Zaa} {x:Addr} {y:AObj} (hx:o x≠none):Fr1 o H o (up H x y):=⟨fun a z h k=>⟨by refine rl (Zab (fun q=>by subst q;exact hx k)) ?_;exact h,k⟩,fun _ h=>Zdm h⟩
theorem Zjv {P:Role→Prop} {o:Addr→Option Role} {H:Zaa} {x:Addr} {y:AObj} (hx:∀ r,o x=some r→¬ P r):KB P o o H (up H x y):=fun a r z hp ho hz _=>⟨ho,by refine rl (Zab (fun q=>by subst q;exact hx r ho hp)) ?_;exact hz⟩
def Role.isP:Role→Prop
 | .data=>True
 | .pact _=>True
 | .inside _=>True
 | _=>False
section
variable {o:Addr→Option Role} {H:Zaa} {b f s p:Addr} {as:List Addr} {B:Bk} (ib:IsBook o H b f s p as B)
include ib
theorem IsBook.setFree (ep:Nat) (l:List (Str×Int)):IsBook o (up H f (.dict ep (dI l))) b f s p as { B with free:=l } :=
 ⟨ib.ob,ib.of,ib.os,ib.op,by refine rl (Zab (Zcb ib.ob ib.of (by intro h;contradiction))) ?_;exact ib.hb,⟨ep,Zac⟩,
  by refine rl (Zab (Zcb ib.os ib.of (by intro h;contradiction))) ?_;exact ib.hs,by refine rl (Zab (Zcb ib.op ib.of (by intro h;contradiction))) ?_;exact ib.hp,
  ib.ps.congr (P:=Role.isP) (Zjv fun r h=>by rw [ib.of] at h;obtain rfl:=osi h;exact id) trivial fun _ _=>⟨trivial,trivial⟩⟩
theorem IsBook.setAside (ep:Nat) (l:List (Str×Int)):IsBook o (up H s (.dict ep (dI l))) b f s p as { B with aside:=l } :=
 ⟨ib.ob,ib.of,ib.os,ib.op,by refine rl (Zab (Zcb ib.ob ib.os (by intro h;contradiction))) ?_;exact ib.hb,by refine rl (Zab (Zcb ib.of ib.os (by intro h;contradiction))) ?_;exact ib.hf,
  ⟨ep,Zac⟩,by refine rl (Zab (Zcb ib.op ib.os (by intro h;contradiction))) ?_;exact ib.hp,
  ib.ps.congr (P:=Role.isP) (Zjv fun r h=>by rw [ib.os] at h;obtain rfl:=osi h;exact id) trivial fun _ _=>⟨trivial,trivial⟩⟩
theorem IsBook.setDay (d:Int):IsBook o (up H b (.inst "Book" [("day",.int d),("free",.ref f),("aside",.ref s),("pacts",.ref p)])) b f s p as { B with day:=d } :=
 ⟨ib.ob,ib.of,ib.os,ib.op,Zac,by refine rl (Zab (Zcb ib.of ib.ob (by intro h;contradiction))) ?_;exact ib.hf,by refine rl (Zab (Zcb ib.os ib.ob (by intro h;contradiction))) ?_;exact ib.hs,
  by refine rl (Zab (Zcb ib.op ib.ob (by intro h;contradiction))) ?_;exact ib.hp,
  ib.ps.congr (P:=Role.isP) (Zjv fun r h=>by rw [ib.ob] at h;obtain rfl:=osi h;exact id) trivial fun _ _=>⟨trivial,trivial⟩⟩
end
noncomputable def Zbz (B:Bk):AV→Bool
 | .str k=>isNm k&&hs B.free k
 | _=>false
section
variable {c:Cx} {P:Pg} (G:Gd c P) (U:HasA P) {n:Nat} {md:Bool} {Q:AV→Zaa→Prop} {E:String→Zaa→Prop} {H:Zaa} {o:Addr→Option Role} {b f s p:Addr} {as:List Addr} {B:Bk}
section
variable {g:Gx} {V:VV} (ib:IsBook o H b f s p as B)
theorem Zc8 {i:Nat} (hP:g.c.P.attrs=BK.attrs) (ib:IsBook o H b f s p as B) (hV:V[i]? = some (some (.ref b))) (q:Q (.ref f) H):wpX g (.attr (.var i) "free") V Q E H:=by
 simp only [Za5,Zbd,Zad,hV,ib.hb];exact ⟨by refine rl hP ?_;rfl,q⟩
theorem Zeg {i:Nat} (hP:g.c.P.attrs=BK.attrs) (ib:IsBook o H b f s p as B) (hV:V[i]? = some (some (.ref b))) (q:Q (.ref s) H):wpX g (.attr (.var i) "aside") V Q E H:=by
 simp only [Za5,Zbd,Zad,hV,ib.hb];exact ⟨by refine rl hP ?_;rfl,q⟩
theorem Zc0 {i:Nat} (hP:g.c.P.attrs=BK.attrs) (ib:IsBook o H b f s p as B) (hV:V[i]? = some (some (.ref b))) (q:Q (.ref p) H):wpX g (.attr (.var i) "pacts") V Q E H:=by
 simp only [Za5,Zbd,Zad,hV,ib.hb];exact ⟨by refine rl hP ?_;rfl,q⟩
theorem Zr7 {i:Nat} (hP:g.c.P.attrs=BK.attrs) (ib:IsBook o H b f s p as B) (hV:V[i]? = some (some (.ref b))) (q:Q (.int B.day) H):wpX g (.attr (.var i) "day") V Q E H:=by
 simp only [Za5,Zbd,Zad,hV,ib.hb];exact ⟨by refine rl hP ?_;rfl,q⟩
theorem Zbw {i:Nat} {m:String} {xs:List X} (hP:g.c.P.meths=BK.meths) (hm:BK.meths.contains ("Book",m)=true) (hn:bookAttrs.contains m=false) (ib:IsBook o H b f s p as B) (hV:V[i]? = some (some (.ref b)))
  (q:wpXs g xs V (fun vs H=>CallOK g.c g.n g.md ("Book."++m) (.ref b::vs) Q E H) E H):wpX g (.meth (.var i) m xs) V Q E H:=by
 simp only [Za5,Zbd,Zad,hV,ib.hb];refine ⟨by refine rl hP ?_;exact hm,?_,q⟩;simp only [bookAttrs,contains_cons,List.contains_nil,Bool.or_false,Bool.or_eq_false_iff,beq_eq_false_iff_ne] at hn;obtain ⟨n1,n2,n3,n4⟩:=hn;simp [Zed,n1.symm,n2.symm,n3.symm,n4.symm]
theorem Zet {k:Str} {v:Int} (ib:IsBook o H b f s p as B) (h:lk B.free k=some v) (q:Q (.int v) H):wsub (.ref f) (.str k) Q H:=by
 obtain ⟨ep,hf⟩:=ib.hf;simp only [Zfg,Ze1,Zmz,hf];exact ⟨.int v,by refine rl Zh4 (rl h ?_);rfl,q⟩
theorem Zfi {k:Str} {v:Int} (ib:IsBook o H b f s p as B) (h:lk B.aside k=some v) (q:Q (.int v) H):wsub (.ref s) (.str k) Q H:=by
 obtain ⟨ep,hf⟩:=ib.hs;simp only [Zfg,Ze1,Zmz,hf];exact ⟨.int v,by refine rl Zh4 (rl h ?_);rfl,q⟩
theorem Zrc {k:Str} {no:Bool} (ib:IsBook o H b f s p as B) (q:Q (.bool (hs B.free k != no)) H):win no (.str k) (.ref f) Q H:=by
 obtain ⟨ep,hf⟩:=ib.hf;simp only [Zgt,Zme,hf];refine rl Zh4 (rl isSome_map (rl nt_eq.symm ?_));exact q
end
include G U
theorem Zcq {v:AV} (ib:IsBook o H b f s p as B) (hk:Kn H v) (q:if Zbz B v then Q .none H else E "NoPurse" H):CallOK c (n+2) true "Book.need_purse" [.ref b,v] Q E H:=by
 refine G.call (F:=BK.f_Book_need_purse) U.need_purse rfl ?_;have hA:c.P.attrs=BK.attrs:=by exact rl G.hP (rl U.attrs rfl)
 simp only [BK.f_Book_need_purse,Zf1,v_0,Zai,Zad,Zar,Zbl,Za6,x_ao,Zbm,Zao,Za0,Zav,Zap,Zaz,Zan,Zak,x_bm,Zbh,Zau,Zbc,Zas,Zag,Zae,Za1,Zat,Zbn,Zbk,Zbt,Zbg,tv,tsub,tattr,wtg,Zcv,Zdh,Zdt,Zbv,Zbx,Zd5,Zcj,c_lt,c_le,c_gt,c_ge,c_eq,c_ne,Zcg,Zds,c_in,Zc7,Zaj,Zd8,Zcp,Zaw,Zby,Zay,Zbq,Zam,Zax,Za3];simp;refine Zgf G U hk ?_;cases hn:Zd2 v with
 | false =>
  have:Zbz B v=false:=by cases v<;>first | rfl | (simp only [Zd2] at hn;simp [Zbz,hn])
  rw [this] at q;simpa [v_0,Zai,Zad,Zar,Zbl,Za6,x_ao,Zbm,Zao,Za0,Zav,Zap,Zaz,Zan,Zak,x_bm,Zbh,Zau,Zbc,Zas,Zag,Zae,Za1,Zat,Zbn,Zbk,Zbt,Zbg,tv,tsub,tattr,wtg,Zcv,Zdh,Zdt,Zbv,Zbx,Zd5,Zcj,c_lt,c_le,c_gt,c_ge,c_eq,c_ne,Zcg,Zds,c_in,Zc7,Zaj,Zd8,Zcp,Zaw,Zby,Zay,Zbq,Zam,Zax,Za3] using q
 | true =>
  cases v with
  | str k =>
   simp only [Zd2] at hn;simp [v_0,Zai,Zad,Zar,Zbl,Za6,x_ao,Zbm,Zao,Za0,Zav,Zap,Zaz,Zan,Zak,x_bm,Zbh,Zau,Zbc,Zas,Zag,Zae,Za1,Zat,Zbn,Zbk,Zbt,Zbg,tv,tsub,tattr,wtg,Zcv,Zdh,Zdt,Zbv,Zbx,Zd5,Zcj,c_lt,c_le,c_gt,c_ge,c_eq,c_ne,Zcg,Zds,c_in,Zc7,Zaj,Zd8,Zcp];refine Zc8 hA ib rfl (Zrc ib ?_);cases hh:hs B.free k with
   | true=>simp [Zbz,hn,hh,Zaj] at q ⊢;exact q
   | false=>simp [Zbz,hn,hh,Zaj,Za3] at q ⊢;exact q
  | _=>contradiction
end
end Mine
end
section
namespace Mine
noncomputable def Za2:AV→Str
 | .str k=>k
 | _=>default
noncomputable def Zh6:AV→Int
 | .int i=>i
 | _=>0
noncomputable def Zkn (B:Bk) (v:AV):Except String Bk :=
 if Zd2 v then (if hs B.free (Za2 v) then .error "Taken" else .ok { B with free:=pt B.free (Za2 v) 0,aside:=pt B.aside (Za2 v) 0 }) else .error "NoName"
noncomputable def Zd4 (B:Bk) (v:AV):Int:=(lk B.free (Za2 v)).getD 0
noncomputable def Zgm (B:Bk) (v:AV):Int:=(lk B.aside (Za2 v)).getD 0
noncomputable def putQ (B:Bk) (v a:AV):Except String Bk :=
 if Zbz B v then (if Zc9 a then .ok { B with free:=pt B.free (Za2 v) (Zd4 B v+Zh6 a) } else .error "NoAmount") else .error "NoPurse"
noncomputable def Z0n (B:Bk) (v a:AV):Except String Bk :=
 if Zbz B v then (if Zc9 a then (if Zd4 B v<Zh6 a then .error "TooLittle" else .ok { B with free:=pt B.free (Za2 v) (Zd4 B v - Zh6 a) }) else .error "NoAmount") else .error "NoPurse"
theorem Zeb {v:AV} (h:Zd2 v=true):v = .str (Za2 v):=by cases v<;>first | rfl | cases h
theorem Zbr {B:Bk} {v:AV} (h:Zbz B v=true):v = .str (Za2 v)∧hs B.free (Za2 v)=true:=by
 cases v with
 | str k=>simp only [Zbz,Bool.and_eq_true] at h;exact ⟨rfl,h.2⟩
 | _=>contradiction
theorem Zja {v:AV} (h:Zc9 v=true):v = .int (Zh6 v):=by cases v<;>first | rfl | cases h
theorem Zf6 {B:Bk} {v:AV} (h:Zbz B v=true):lk B.free (Za2 v)=some (Zd4 B v):=Zfv (Zbr h).2
def Bk.Sz (B:Bk):Prop:=B.free.length≤sizeLine∧B.aside.length≤sizeLine
def Ends (r:Except String Bk) (q:Bk→Prop) (e:String→Prop):Prop :=
 match r with
 | .ok B=>q B
 | .error cl=>e cl
section
variable {A A':Bk→Prop} {F F':String→Prop} {p:Prop} [Decidable p] {x y:Except String Bk}
theorem Ends.t (q:Ends (if p then x else y) A F) (h:p):Ends x A F:=by rw [if_pos h] at q;exact q
theorem Ends.f (q:Ends (if p then x else y) A F) (h:¬ p):Ends y A F:=by rw [if_neg h] at q;exact q
theorem Ends.gen {G:Prop} (q:Ends x A F) (k:∀ A' F',(∀ B,A' B→A B)→(∀ e,F' e→F e)→Ends x A' F'→G):G:=k A F (fun _ h=>h) (fun _ h=>h) q
variable {α:Type} {z:Except String α} {f:α→Except String Bk} {e:String} {a:α}
theorem Ends.er (q:Ends (z.bind f) A F) (h:z = .error e):F e:=by rw [h] at q;exact q
theorem Ends.ok (q:Ends (z.bind f) A F) (h:z = .ok a):Ends (f a) A F:=by rw [h] at q;exact q
noncomputable def toE {α:Type} (e:String):Option α→Except String α
 | none=>.error e
 | some a=>.ok a
theorem Ends.no {o:Option α} (q:Ends ((toE e o).bind f) A F) (h:o=none):F e:=by rw [h] at q;exact q
end
section
variable {c:Cx} {P:Pg} (G:Gd c P) (U:HasA P) {n:Nat} {md:Bool} {Q:AV→Zaa→Prop} {E:String→Zaa→Prop} {H:Zaa} {o:Addr→Option Role} {b f s p:Addr} {as:List Addr} {B:Bk}
section
variable {g:Gx} {V:VV} {QN:VV→Zaa→Prop}
theorem Zls {i j:Nat} {k:Str} {x:Int} (hP:g.c.P.attrs=BK.attrs) (ib:IsBook o H b f s p as B) (hl:B.free.length≤sizeLine) (hV:V[i]? = some (some (.ref b))) (hj:V[j]? = some (some (.str k)))
  (q:∀ H',IsBook o H' b f s p as { B with free:=pt B.free k x }→Fr1 o H o H'→QN V H'):wpT g (.sub (.attr (.var i) "free") (.var j)) (.int x) V QN E H:=by
 dsimp only [tsub];refine Zc8 hP ib hV ?_;obtain ⟨ep,hf⟩:=ib.hf;simp only [Zad,hj,hf];refine ⟨by refine rl Zgv ?_;exact hl,fun ep'=>?_⟩;refine rl Zhn ?_;exact q _ (ib.setFree ep' _) (Zj6 (by refine rl ib.of ?_;simp))
theorem Zm0 {i j:Nat} {k:Str} {x:Int} (hP:g.c.P.attrs=BK.attrs) (ib:IsBook o H b f s p as B) (hl:B.aside.length≤sizeLine) (hV:V[i]? = some (some (.ref b))) (hj:V[j]? = some (some (.str k)))
  (q:∀ H',IsBook o H' b f s p as { B with aside:=pt B.aside k x }→Fr1 o H o H'→QN V H'):wpT g (.sub (.attr (.var i) "aside") (.var j)) (.int x) V QN E H:=by
 dsimp only [tsub];refine Zeg hP ib hV ?_;obtain ⟨ep,hf⟩:=ib.hs;simp only [Zad,hj,hf];refine ⟨by refine rl Zgv ?_;exact hl,fun ep'=>?_⟩;refine rl Zhn ?_;exact q _ (ib.setAside ep' _) (Zj6 (by refine rl ib.os ?_;simp))
end
include G U
theorem Ztn {v:AV} (ib:IsBook o H b f s p as B) (hk:Kn H v) (hz:B.Sz) (q:Ends (Zkn B v) (fun B'=>∀ H',IsBook o H' b f s p as B'→Fr1 o H o H'→Q .none H') (fun cl=>E cl H)):CallOK c (n+3) true "Book.open_purse" [.ref b,v] Q E H:=by
 refine G.call (F:=BK.f_Book_open_purse) U.open_purse rfl ?_;have hA:c.P.attrs=BK.attrs:=by exact rl G.hP (rl U.attrs rfl)
 refine w_st fun K nx=>?_;dsimp only [Zax,Zan,Zae,Zad];refine Zma G U hk ?_;refine q.gen fun A F qA qF q=>?_;cases hn:Zd2 v with
 | false=>exact qF _ (q.f (by refine rl hn ?_;decide))
 | true =>
  obtain ⟨k,rfl⟩:∃ k,v = .str k:=⟨_,Zeb hn⟩
  replace q:=q.t hn;refine nx _ _ ?_;refine w_st fun K nx=>?_;dsimp only [Zay,Zao,Zad];refine Zc8 hA ib rfl ?_;dsimp only [c_in];refine Zrc ib ?_;cases hh:hs B.free k with
  | true=>exact ⟨rfl,qF _ (q.t hh)⟩
  | false =>
   replace q:=q.f fun h=>Bool.false_ne_true (hh.symm.trans h);refine nx _ _ ?_;refine w_st fun K nx=>?_;dsimp only [Zam,Zai];refine Zls (k:=k) hA ib hz.1 rfl rfl fun H1 ib1 f1=>nx _ _ ?_;refine w_st fun K nx=>?_;dsimp only [Zam,Zai];exact Zm0 (k:=k) hA ib1 hz.2 rfl rfl fun H2 ib2 f2=>nx _ _ (qA _ q H2 ib2 (f1.trans f2))
theorem Zwc {v a:AV} (hput:P.fns.lookup "Book.put" = some BK.f_Book_put) (ib:IsBook o H b f s p as B) (hk:Kn H v) (hka:Kn H a) (hz:B.Sz) (q:Ends (putQ B v a) (fun B'=>∀ H',IsBook o H' b f s p as B'→Fr1 o H o H'→Q .none H') (fun cl=>E cl H)):CallOK c (n+3) true "Book.put" [.ref b,v,a] Q E H:=by
 refine G.call (F:=BK.f_Book_put) hput rfl ?_;have hA:c.P.attrs=BK.attrs:=by exact rl G.hP (rl U.attrs rfl)
 have hM:c.P.meths=BK.meths:=by exact rl G.hP (rl U.meths rfl)
 refine w_st fun K nx=>?_;dsimp only [Zax];refine Zbw hM (by decide) (by decide) ib rfl ?_;refine Zcq G U ib hk ?_;refine q.gen fun A F qA qF q=>?_;cases hp:Zbz B v with
 | false=>exact qF _ (q.f (by refine rl hp ?_;decide))
 | true =>
  have hf:=Zf6 hp;obtain ⟨k,rfl⟩:∃ k,v = .str k:=⟨_,(Zbr hp).1⟩
  replace q:=q.t hp;refine nx _ _ ?_;refine w_st fun K nx=>?_;dsimp only [Zam,Zar,Zav];refine Zc8 hA ib rfl ?_;refine Zet ib hf ?_;refine Zll G U hka ?_;cases ha:Zc9 a with
  | false=>exact qF _ (q.f (by refine rl ha ?_;decide))
  | true =>
   obtain ⟨i,rfl⟩:∃ i,a = .int i:=⟨_,Zja ha⟩
   replace q:=q.t ha;refine rl (if_pos rfl) (rl Zcv ?_);exact Zls (k:=k) hA ib hz.1 rfl rfl fun H1 ib1 f1=>nx _ _ (qA _ q H1 ib1 f1)
theorem Zox {v:AV} (ib:IsBook o H b f s p as B) (hk:Kn H v) (q:if Zbz B v then Q (.int (Zd4 B v)) H else E "NoPurse" H):CallOK c (n+3) true "Book.free_of" [.ref b,v] Q E H:=by
 refine G.call (F:=BK.f_Book_free_of) U.free_of rfl ?_;have hA:c.P.attrs=BK.attrs:=by exact rl G.hP (rl U.attrs rfl)
 have hM:c.P.meths=BK.meths:=by exact rl G.hP (rl U.meths rfl)
 dsimp only [BK.f_Book_free_of,Zf1,v_0,Zai,Zad,Zar,Zbl,Za6,x_ao,Zbm,Zao,Za0,Zav,Zap,Zaz,Zan,Zak,x_bm,Zbh,Zau,Zbc,Zas,Zag,Zae,Za1,Zat,Zbn,Zbk,Zbt,Zbg,tv,wtg,Zcv,Zdh,Zdt,Zbv,Zbx,Zd5,Zcj,c_lt,c_le,c_gt,c_ge,c_eq,c_ne,Zcg,Zds,c_in,Zc7,Zaj,Zd8,Zcp,Zaw,Zby,Zay,Zbq,Zam,Zax,Za3];refine Zbw hM (by decide) (by decide) ib rfl ?_;refine Zcq G U ib hk ?_;cases hp:Zbz B v with
 | false=>simp [hp] at q ⊢;exact q
 | true =>
  have hf:=Zf6 hp;obtain ⟨k,rfl⟩:∃ k,v = .str k:=⟨_,(Zbr hp).1⟩
  simp only [hp,if_true] at q ⊢;exact Zc8 hA ib rfl (Zet ib hf q)
theorem Zmp {v:AV} (hU:P.fns.lookup "Book.aside_of" = some BK.f_Book_aside_of) (ib:IsBook o H b f s p as B) (hk:Kn H v) (hs':∀ k,hs B.free k=true→hs B.aside k=true) (q:if Zbz B v then Q (.int (Zgm B v)) H else E "NoPurse" H):CallOK c (n+3) true "Book.aside_of" [.ref b,v] Q E H:=by
 refine G.call (F:=BK.f_Book_aside_of) hU rfl ?_;have hA:c.P.attrs=BK.attrs:=by exact rl G.hP (rl U.attrs rfl)
 have hM:c.P.meths=BK.meths:=by exact rl G.hP (rl U.meths rfl)
 dsimp only [BK.f_Book_aside_of,Zf1,v_0,Zai,Zad,Zar,Zbl,Za6,x_ao,Zbm,Zao,Za0,Zav,Zap,Zaz,Zan,Zak,x_bm,Zbh,Zau,Zbc,Zas,Zag,Zae,Za1,Zat,Zbn,Zbk,Zbt,Zbg,tv,wtg,Zcv,Zdh,Zdt,Zbv,Zbx,Zd5,Zcj,c_lt,c_le,c_gt,c_ge,c_eq,c_ne,Zcg,Zds,c_in,Zc7,Zaj,Zd8,Zcp,Zaw,Zby,Zay,Zbq,Zam,Zax,Za3];refine Zbw hM (by decide) (by decide) ib rfl ?_;refine Zcq G U ib hk ?_;cases hp:Zbz B v with
 | false=>simp [hp] at q ⊢;exact q
 | true =>
  have hf:=Zfv (hs' _ (Zbr hp).2);obtain ⟨k,rfl⟩:∃ k,v = .str k:=⟨_,(Zbr hp).1⟩
  simp only [hp,if_true] at q ⊢;exact Zeg hA ib rfl (Zfi ib hf q)
end
end Mine
end
section
namespace Mine
theorem Zgw {H:Zaa} {a b:Addr} {o:AObj} (h:up H a o b=none):a≠b:=fun e=>by subst e;rw [Zac] at h;contradiction
theorem st_a {g:Gx} {V:VV} {K:VV→Zaa→Prop} {E:String→Zaa→Prop} {H:Zaa} {i:Nat} {n cl:String} {a:Addr} {es:List (String×AV)} {x:AV} (hV:V[i]? = some (some (.ref a))) (hP:g.c.P.attrs.contains (cl,n)=true) (h:H a=some (.inst cl es)) (hl:es.length≤100) (q:K V (up H a (.inst cl (putA es n x)))):wpT g (.attr (.var i) n) x V K E H:=by
 (dsimp only [tattr,Zad];refine rl hV ?_)
 show match H a with | some (.inst cl es)=>_ | _=>False
 refine rl h ?_;exact ⟨hP,hl,q⟩
theorem Ze4 {H:Zaa} {a:Addr} {x:AObj} (h:H a=some x):up H a x=H:=by
 funext b
 by_cases e:b=a
 ·subst e;exact rl Zac (rl h rfl)
 ·exact rl (Zab e) rfl
section
variable {c:Cx} {P:Pg} (G:Gd c P) (U:HasA P) {n:Nat} {md:Bool} {Q:AV→Zaa→Prop} {E:String→Zaa→Prop} {H:Zaa} {b:Addr} {B:Bk}
theorem Kn.open {H₂:Zaa} {v:AV} {o:Addr→Option Role} (hb:H b=some (.book B)) (hold:∀ a x,H a=some x→a≠b→H₂ a=some x∧o a=none) (k:Kn H v):Kn H₂ v:=by
 obtain ⟨⟨t,ht⟩,hl⟩:=k;refine ⟨⟨t,?_⟩,hl⟩;cases v with
 | ref a =>
  simp only [Ze0] at ht ⊢;cases e:H a with
  | none=>rw [e] at ht;cases ht
  | some x =>
   have:a≠b:=fun q=>by subst q;rw [hb] at e;cases e;rw [hb] at ht;cases ht
   refine rl ((hold a x e this).1) ?_;rw [e] at ht;exact ht
 | _=>exact ht
theorem IsBook.fresh {o:Addr→Option Role} {H₂:Zaa} {f s p z:Addr} {as:List Addr} (ib:IsBook o H₂ b f s p as B) (hz:H₂ z=none) (y:AObj):IsBook (fun a=>if a=z then none else o a) (up H₂ z y) b f s p as B∧Fr1 o H₂ (fun a=>if a=z then none else o a) (up H₂ z y) :=
 ⟨ib.congr fun a r x _ ho hx _=>by
   have:a≠z:=fun q=>by subst q;rw [hz] at hx;contradiction
   exact ⟨by simp only [this,if_false];exact ho,by refine rl (Zab this) ?_;exact hx⟩,
  ⟨fun a x h k=>by
   have:a≠z:=fun q=>by subst q;rw [hz] at h;contradiction
   exact ⟨by refine rl (Zab this) ?_;exact h,by simp only [this,if_false];exact k⟩,fun _ h=>Zdm h⟩⟩
include G U
theorem Zyo {v:AV} (hb:H b=some (.book B)) (hk:Kn H v) (hz:B.Sz) (q:Ends (Zkn B v) (fun B'=>Q .none (up H b (.book B'))) (fun cl=>E cl H)):CallOK c (n+3) true "Book.open_purse" [.ref b,v] Q E H:=by
 refine Zb6 hb fun H₂ o f s p as ib hold=>Ztn G U ib (hk.open hb hold) hz ?_;revert q;cases Zkn B v with
 | ok B'=>exact fun q H' ib' fr=>⟨o,f,s,p,as,B',ib',fr,.inl ⟨(fun _ h=>by contradiction),q⟩⟩
 | error cl=>exact fun q=>⟨o,f,s,p,as,B,ib,.refl,by refine rl (Ze4 hb) ?_;exact q⟩
theorem Z02 {v a:AV} (hput:P.fns.lookup "Book.put" = some BK.f_Book_put) (hb:H b=some (.book B)) (hk:Kn H v) (hka:Kn H a) (hz:B.Sz) (q:Ends (putQ B v a) (fun B'=>Q .none (up H b (.book B'))) (fun cl=>E cl H)):CallOK c (n+3) true "Book.put" [.ref b,v,a] Q E H:=by
 refine Zb6 hb fun H₂ o f s p as ib hold=>Zwc G U hput ib (hk.open hb hold) (hka.open hb hold) hz ?_;revert q;cases putQ B v a with
 | ok B'=>exact fun q H' ib' fr=>⟨o,f,s,p,as,B',ib',fr,.inl ⟨(fun _ h=>by contradiction),q⟩⟩
 | error cl=>exact fun q=>⟨o,f,s,p,as,B,ib,.refl,by refine rl (Ze4 hb) ?_;exact q⟩
theorem Zue {v:AV} (hb:H b=some (.book B)) (hk:Kn H v) (q:if Zbz B v then Q (.int (Zd4 B v)) H else E "NoPurse" H):CallOK c (n+3) true "Book.free_of" [.ref b,v] Q E H:=by
 refine Zb6 hb fun H₂ o f s p as ib hold=>Zox G U ib (hk.open hb hold) ?_;revert q;cases Zbz B v with
 | true=>exact fun q=>⟨o,f,s,p,as,B,ib,.refl,.inl ⟨(fun _ h=>by contradiction),by refine rl (Ze4 hb) ?_;exact q⟩⟩
 | false=>exact fun q=>⟨o,f,s,p,as,B,ib,.refl,by refine rl (Ze4 hb) ?_;exact q⟩
theorem Zsc {v:AV} (hU:P.fns.lookup "Book.aside_of" = some BK.f_Book_aside_of) (hb:H b=some (.book B)) (hk:Kn H v) (hs':∀ k,hs B.free k=true→hs B.aside k=true) (q:if Zbz B v then Q (.int (Zgm B v)) H else E "NoPurse" H):CallOK c (n+3) true "Book.aside_of" [.ref b,v] Q E H:=by
 refine Zb6 hb fun H₂ o f s p as ib hold=>Zmp G U hU ib (hk.open hb hold) hs' ?_;revert q;cases Zbz B v with
 | true=>exact fun q=>⟨o,f,s,p,as,B,ib,.refl,.inl ⟨(fun _ h=>by contradiction),by refine rl (Ze4 hb) ?_;exact q⟩⟩
 | false=>exact fun q=>⟨o,f,s,p,as,B,ib,.refl,by refine rl (Ze4 hb) ?_;exact q⟩
theorem Zea {H₂:Zaa} {o:Addr→Option Role} {f s p z:Addr} {as:List Addr} (hb:H b=some (.book B)) (ib:IsBook o H₂ b f s p as B) (hold:∀ a x,H a=some x→a≠b→H₂ a=some x∧o a=none) (hz:H₂ z=none):H z=none:=by
 cases e:H z with
 | none=>rfl
 | some x =>
  by_cases q:z=b
  ·subst q;rw [ib.hb] at hz;contradiction
  ·rw [(hold z x e q).1] at hz;contradiction
theorem Zta (hb:H b=some (.book B)) (hz:B.Sz) (q:∀ z,H z=none→Q (.ref z) (up H z (.list (B.free.map fun e=>.str e.1)))):CallOK c (n+1) true "Book.purses" [.ref b] Q E H:=by
 refine Zb6 hb fun H₂ o f s p as ib hold=>?_;refine G.call (F:=BK.f_Book_purses) U.purses rfl ?_;have hA:c.P.attrs=BK.attrs:=by exact rl G.hP (rl U.attrs rfl)
 dsimp only [BK.f_Book_purses,Zf1,v_0,Zai,Zad,Zar,Zbl,Za6,x_ao,Zbm,Zao,Za0,Zav,Zap,Zaz,Zan,Zak,x_bm,Zbh,Zau,Zbc,Zas,Zag,Zae,Za1,Zat,Zbn,Zbk,Zbt,Zbg,tv,wtg,Zcv,Zdh,Zdt,Zbv,Zbx,Zd5,Zcj,c_lt,c_le,c_gt,c_ge,c_eq,c_ne,Zcg,Zds,c_in,Zc7,Zaj,Zd8,Zcp,Zaw,Zby,Zay,Zbq,Zam,Zax,Za3];refine Zc8 hA ib rfl ?_;obtain ⟨ep,hf⟩:=ib.hf;simp only [Zhw,Zf8,Zfo,Zp9,Ze2,Zd9,Zgn,Ziv,hf];refine ⟨trivial,by refine rl Zgv ?_;exact hz.1,fun z hz=>?_⟩;obtain ⟨i1,i2⟩:=ib.fresh hz (.list ((dI B.free).map fun e=>.str e.1));refine ⟨_,f,s,p,as,B,i1,i2,.inr ⟨z,_,rfl,Zea G U hb ib hold hz,Zac,by simp,?_⟩⟩;refine rl (Ze4 hb) ?_;have:=q z (Zea G U hb ib hold hz);simp only [dI,map_map] at this ⊢;exact this
omit G U in
theorem Znc {g:Gx} {V:VV} (hP:g.c=c) (G:Gd g.c P) (U:HasA P) (hn:∃ m,g.n=m+1) (q:∀ a,H a=none→Q (.ref a) (up H a (.book ⟨0,[],[],[]⟩))):wpX g (.new "Book" []) V Q E H:=by
 obtain ⟨m,hm⟩:=hn
 (dsimp only [Zch,Zag];refine rl hm ?_)
 intro a ha;refine CallOK.post (Q:=fun r H'=>r = .none∧∃ o f s p,IsBook o H' a f s p [] ⟨0,[],[],[]⟩∧∀ x y,x≠a→H x=some y→H' x=some y∧o x=none) (E:=fun _ _=>False) ?_ (fun r H' h=>?_) (fun _ _ h=>h.elim)
 ·refine G.call (F:=BK.f_Book___init__) U.init rfl ?_;have hA:g.c.P.attrs=BK.attrs:=by exact rl G.hP (rl U.attrs rfl)
  have hC:∀ n,BK.attrs.contains ("Book",n)=true→g.c.P.attrs.contains ("Book",n)=true:=fun n h=>by refine rl hA ?_;exact h
  refine w_st fun K nx=>?_;dsimp only [Zam,Zai];refine st_a rfl (hC _ rfl) Zac (by decide) (nx _ _ ?_);refine w_st fun K nx=>?_;intro f hf;have fa:a≠f:=Zgw hf;refine st_a rfl (hC _ rfl) (by exact rl (Zab fa) (rl Zac rfl)) (by decide) (nx _ _ ?_);refine w_st fun K nx=>?_;intro s hs;have sa:a≠s:=Zgw hs;have sf:f≠s:=Zgw (by rw [Zab sa.symm] at hs;exact hs);refine st_a rfl (hC _ rfl) (by exact rl (Zab sa) (rl Zac rfl)) (by exact (show 2≤100 by decide)) (nx _ _ ?_);refine w_st fun K nx=>?_;intro p hp;have pa:a≠p:=Zgw hp;have ps:s≠p:=Zgw (by rw [Zab pa.symm] at hp;exact hp);have pf:f≠p:=Zgw (by rw [Zab pa.symm,Zab ps.symm,Zab pa.symm] at hp;exact hp);refine st_a rfl (hC _ rfl) (by exact rl (Zab pa) (rl Zac rfl)) (by exact (show 3≤100 by decide)) (nx _ _ ?_);refine ⟨rfl,fun x=>if x=a then some .self else if x=f then some .free else if x=s then some .aside else if x=p then some .pacts else none,f,s,p,⟨by simp,by simp [fa.symm],by simp [sa.symm,sf.symm],by simp [pa.symm,pf.symm,ps.symm],Zac,⟨0,?_⟩,⟨0,?_⟩,⟨0,?_⟩,trivial⟩,fun x y hx hy=>?_⟩
  ·refine rl (Zab fa.symm) (rl (Zab pf) (rl (Zab fa.symm) (rl (Zab sf) (rl (Zab fa.symm) (rl Zac ?_)))));rfl
  ·refine rl (Zab sa.symm) (rl (Zab ps) (rl (Zab sa.symm) (rl Zac ?_)));rfl
  ·refine rl (Zab pa.symm) (rl Zac ?_);rfl
  ·have xf:x≠f:=fun e=>by subst e;rw [Zab hx,Zab hx,hy] at hf;contradiction
   have xs:x≠s:=fun e=>by subst e;rw [Zab hx,Zab xf,Zab hx,Zab hx,hy] at hs;contradiction
   have xp:x≠p:=fun e=>by subst e;rw [Zab hx,Zab xs,Zab hx,Zab xf,Zab hx,Zab hx,hy] at hp;contradiction
   exact ⟨by exact rl (Zab hx) (rl (Zab xp) (rl (Zab hx) (rl (Zab xs) (rl (Zab hx) (rl (Zab xf) (rl (Zab hx) (rl (Zab hx) (rl hy rfl)))))))),by simp [hx,xf,xs,xp]⟩
 ·obtain ⟨rfl,o,f,s,p,ib,hold⟩:=h;refine ⟨_,fun H₁ r=>r.pack ib fun x y e=>?_,rfl,q a ha⟩;by_cases w:x=a
  ·subst w;rw [Zac] at e;obtain rfl:=osi e;exact .inl ⟨rfl,rfl⟩
  ·rw [Zab w] at e;exact .inr ⟨w,(hold x y w e).2,(hold x y w e).1⟩
end
end Mine
end
section
namespace Mine
noncomputable def cell (ns:List Int) (k:Nat):Int:=(ns[k]?).getD 0
theorem Zer {c:Cx} {P:Pg} (G:Gd c P) (hf:P.fns.lookup "_law_cell_at" = some BK.f__law_cell_at) {n:Nat} {md:Bool} {Q:AV→Zaa→Prop} {E:String→Zaa→Prop} {H:Zaa} {sp:Addr} {ns:List Int} {k:Int} (hk:0≤k) (hs:H sp=some (.script ns)) (hl:ns.length<2 ^ 62)
  (q:Q (.int (cell ns k.toNat)) H):CallOK c (n+1) md "_law_cell_at" [.ref sp,.int k] Q E H:=by
 refine G.call (F:=BK.f__law_cell_at) hf rfl ?_;simp [BK.f__law_cell_at,Zhw,Zf8,Zfo,Zp9,Ze2,Zd9,Zgn,Ziv,hs,hl,Zf1,Zfg,Ze1,Zmz,v_0,Zai,Zad,Zar,Zbl,Za6,x_ao,Zbm,Zao,Za0,Zav,Zap,Zaz,Zan,Zak,x_bm,Zbh,Zau,Zbc,Zas,Zag,Zae,Za1,Zat,Zbn,Zbk,Zbt,Zbg,tv,tsub,tattr,wtg,Zcv,Zdh,Zdt,Zbv,Zbx,Zd5,Zcj,c_lt,c_le,c_gt,c_ge,c_eq,c_ne,Zcg,Zds,c_in,Zc7,Zaj,Zd8,Zcp,Zaw,Zby,Zay,Zbq,Zam,Zax,Za3];obtain ⟨j,rfl⟩:=Int.eq_ofNat_of_zero_le hk;by_cases h:j<ns.length
 ·simp [h];refine ⟨by lia,?_⟩;simpa [cell,h] using q
 ·simp [h];simpa [cell,h] using q
theorem Za8 {x m:Int} (h:0<m):0≤x.fmod m:=by refine rl (fmod_eq_emod_of_nonneg _ (by omega)) ?_;exact Int.emod_nonneg _ (by omega)
theorem Zbj {x m:Int} (h:0<m):x.fmod m<m:=by refine rl (fmod_eq_emod_of_nonneg _ (by omega)) ?_;exact Int.emod_lt_of_pos _ h
theorem Zdl {H:Zaa} {a b:Addr} {o o':AObj} (h:H b=some o') (k:H a=none):up H a o b=some o':=by
 refine rl (Zab (fun z=>by rw [z,k] at h;contradiction)) ?_;exact h
def Ext (H H':Zaa):Prop:=∀ a o,H a=some o→H' a=some o
theorem Ext.refl {H:Zaa}:Ext H H:=fun _ _ h=>h
theorem Ext.trans {H H' H'':Zaa} (x:Ext H H') (y:Ext H' H''):Ext H H'':=fun a o h=>y a o (x a o h)
theorem Ext.none {H H':Zaa} {z:Addr} (x:Ext H H') (h:H' z=none):H z=none:=by
 cases q:H z with
 | none=>rfl
 | some o=>rw [x z o q] at h;contradiction
theorem Ext.own {H H':Zaa} {z:Addr} {o:AObj} (x:Ext H H') (h:H z=Option.none):Ext H (up H' z o):=fun a o' e=>by
 refine rl (Zab (fun q=>by rw [q,h] at e;contradiction)) ?_;exact x a o' e
theorem Ext.new {H H':Zaa} {z:Addr} {o:AObj} (x:Ext H H') (h:H' z=Option.none):Ext H (up H' z o):=x.own (x.none h)
theorem Zh0 {H:Zaa} {a b:Addr} {o:AObj} (h:H a=some o) (k:H b=none):a≠b:=fun q=>by rw [q,k] at h;contradiction
noncomputable def txs (l:List Str):List AV:=l.map AV.str
theorem Zaf {l:List Str}:(txs l).length=l.length:=by simp [txs]
theorem Zjf {l:List Str} {k:Nat} {x:AV} (h:(txs l)[k]? = some x):∃ s,x = .str s∧l[k]? = some s:=by
 unfold txs at h;rw [getElem?_map,map_eq_some_iff] at h;obtain ⟨s,h1,h2⟩:=h;exact ⟨s,h2.symm,h1⟩
theorem Zd7 {l:List Str} {s:Str}:txs l++[.str s]=txs (l++[s]):=by simp [txs]
theorem Zb4 {α:Type} {l:List α} {k:Nat} {x:α} (h:l[k]? = some x):l.take (k+1)=l.take k++[x]:=by
 refine rl take_add_one (rl h ?_);rfl
theorem Zm4 {H:Zaa}:∀ {l:List Str},RDs H (txs l) (l.map PyData.str)
 | []=>.nil
 | s::r=>.cons (.str s) Zm4
theorem Zjy:∀ {l:List Str},Zh8 (l.map PyData.str)=true
 | []=>rfl
 | s::r=>by simp [Zh8,Zmh,Zjy (l:=r)]
theorem Zlb:∀ {l:List Str},PyData.depthAll (l.map PyData.str)=0
 | []=>rfl
 | s::r=>by simp [PyData.depthAll,PyData.depth,Zlb (l:=r)]
theorem Zvc {l:List Str}:okD (.list (l.map PyData.str)):=⟨by simp [Zmh,Zjy],by simp [PyData.depth,Zlb]⟩
theorem Zyw {s:Str}:okD (.str s):=⟨rfl,zero_le _⟩
theorem Zro:∀ {l l':List Str},PyData.eqvAll (l.map PyData.str) (l'.map PyData.str)=decide (l=l')
 | [],[]=>rfl
 | [],_::_=>rfl
 | _::_,[]=>rfl
 | s::r,s'::r'=>by
  simp only [map_cons,Z1k,Zzx,Zro (l:=r) (l':=r'),List.cons.injEq];by_cases h:s=s'<;>simp [h]
theorem Zxo {l:List Str} {s:Str}:((l.map PyData.str).any fun y=>PyData.eqv y (.str s))=decide (s∈l):=by
 induction l with
 | nil=>rfl
 | cons t r ih =>
  simp only [map_cons,any_cons,ih,Zzx,mem_cons];by_cases h:s=t
  ·simp [h]
  ·have:t≠s:=fun z=>h z.symm;simp [h,this]
section
variable {Q:AV→Zaa→Prop} {H:Zaa}
theorem Zjd {no:Bool} {x:Str} {a:Addr} {l:List Str} (h:H a=some (.list (txs l))) (q:Q (.bool (decide (x∈l) != no)) H):win no (.str x) (.ref a) Q H:=by
 simp only [Zgt,Zme,h];refine ⟨.str x,l.map PyData.str,.str x,Zm4,Zyw,Zjy,?_⟩;refine rl Zxo (rl nt_eq.symm ?_);exact q
theorem Zmt {no:Bool} {x:Str} {a:Addr} {ep:Nat} {es:List (Str×AV)} (h:H a=some (.dict ep es)) (q:Q (.bool ((Zb8 es x).isSome != no)) H):win no (.str x) (.ref a) Q H:=by
 simp only [Zgt,Zme,h,← nt_eq];exact q
theorem Zhb {ne:Bool} {a b:Addr} {l l':List Str} (h:H a=some (.list (txs l))) (h':H b=some (.list (txs l'))) (q:Q (.bool (decide (l=l') != ne)) H):weq ne (.ref a) (.ref b) Q H:=by
 simp only [weq,h];refine ⟨.list (l.map PyData.str),.list (l'.map PyData.str),.list h Zm4,.list h' Zm4,Zvc,Zvc,?_⟩;refine rl Z1j (rl Zro (rl nt_eq.symm ?_));exact q
end
theorem Z1s {Q:AV→Zaa→Prop} {H:Zaa} {u v:AV}:wcmp .Eq u v Q H=weq false u v Q H:=rfl
theorem Zuo {Q:AV→Zaa→Prop} {H:Zaa} {u v:AV}:wcmp .NotEq u v Q H=weq true u v Q H:=rfl
section
variable {Q:AV→Zaa→Prop} {H:Zaa}
theorem Zjr {a:Addr} {xs:List AV} (h:H a=some (.list xs)) (hl:xs.length≤100000) (q:Q (.int xs.length) H):Zc1 md .len [.ref a] Q H:=by
 simp only [Zhw,Zf8,Zfo,Zp9,Ze2,Zd9,Zgn,Ziv,h];exact ⟨by omega,q⟩
theorem Zyl {a:Addr} {xs:List AV} (h:H a=some (.list xs)) (hl:xs.length≤100000) (q:∀ z,H z=none→Q (.ref z) (up H z (.list xs))):Zc1 md .list [.ref a] Q H:=by
 simp only [Zhw,Zf8,Zfo,Zp9,Ze2,Zd9,Zgn,Ziv,h];exact ⟨by simp [sizeLine];lia,q⟩
theorem Zv0 {a:Addr} {l:List Str} {k:Nat} {s:Str} (h:H a=some (.list (txs l))) (hk:l[k]? = some s) (hl:l.length≤1000) (q:Q (.str s) H):wsub (.ref a) (.int k) Q H:=by
 have hlt:k<l.length:=(gsi hk).1;simp only [Zfg,Ze1,Zmz,h];refine ⟨k,.str s,by simp [Zf5,hlt,Zaf],by lia,by lia,by simp [txs,hk],q⟩
theorem Zsx {a:Addr} {l:List Str} {i:Int} (h:H a=some (.list (txs l))) (h0:0≤i) (h1:i<l.length) (hl:l.length≤1000) (q:∀ s∈l,Q (.str s) H):wsub (.ref a) (.int i) Q H:=by
 have hlt:i.toNat<l.length:=by lia
 have e:i=((i.toNat:Nat):Int):=by lia
 refine rl e ?_;exact Zv0 h (getElem?_eq_getElem hlt) hl (q _ (getElem_mem hlt))
theorem Zym {a:Addr} {l:List Str} (h:H a=some (.list (txs l))) (hl:l.length≤1000) (q:Q (.int l.length) H):Zc1 md .len [.ref a] Q H :=
 Zjr h (by refine rl Zaf ?_;exact le_trans hl (by decide)) (by refine rl Zaf ?_;exact q)
theorem Zf9 {a:Addr} {l:List Str} (h:H a=some (.list (txs l))) (hl:l.length≤1000) (q:∀ z,H z=none→Q (.ref z) (up H z (.list (txs l)))):Zc1 md .list [.ref a] Q H :=
 Zyl h (by refine rl Zaf ?_;exact le_trans hl (by decide)) q
theorem Zde {p:Addr} {xs:List AV} {v:AV} (h:H p=some (.list xs)) (hl:xs.length≤100000) (q:Q .none (up H p (.list (xs++[v])))):wbm (.ref p) .append [v] Q H:=by
 simp only [Z09,Zwp,h];exact ⟨by simp [sizeLine];lia,q⟩
end
section
variable {g:Gx} {QN:VV→Zaa→Prop} {QR:AV→Zaa→Prop} {E:String→VV→Zaa→Prop} {V:VV} {H:Zaa}
theorem Z0h {t:Tg} {it:X} {b:List S}:wpS g (.for t it b) QN QR E V H=(g.md=true∧wpX g it V (fun v H=>WFor QN (fun x nx V H=>wtg t x V H fun V=>wpSs g b nx QR E V H) v V H) (fun cl H=>E cl V H) H):=rfl
end
theorem Zdb {QN:VV→Zaa→Prop} {stp:AV→(VV→Zaa→Prop)→VV→Zaa→Prop} {v:AV} {V:VV} {H:Zaa} {xs:List AV} (hx:Zal H v=some xs) (J:Nat→VV→Zaa→Prop) (h0:J 0 V H)
  (hs:∀ I:Nat→VV→Zaa→Prop,(∀ k V' H',J k V' H'→I k V' H')→∀ k V' H',J k V' H'→Zdu H H' v∧(k=xs.length→QN V' H')∧∀ x,xs[k]? = some x→stp x (I (k+1)) V' H'):WFor QN stp v V H :=
 wfor hx J h0 (hs J fun _ _ _ h=>h)
theorem Zj4 {Q:AV→Zaa→Prop} {stp:AV→(Option AV→Zaa→Prop)→Zaa→Prop} {v:AV} {H:Zaa} {xs:List AV} (hx:Zal H v=some xs) (hl:xs.length≤sizeLine) (f:AV→Option AV)
  (hs:∀ x∈xs,∀ H',Ext H H'→∀ nx:Option AV→Zaa→Prop,(∀ H'',Ext H' H''→nx (f x) H'')→stp x nx H')
  (q:∀ a H',Ext H H'→H' a=none→Q (.ref a) (up H' a (.list (xs.filterMap f)))):Zj3 Q stp v H:=by
 refine ⟨xs,hx,hl,fun k acc H'=>Ext H H'∧acc=(xs.take k).filterMap f,⟨.refl,by simp⟩,?_⟩;rintro k acc H' ⟨hE,rfl⟩;refine ⟨?_,fun hk a ha=>?_,fun x hxk=>?_⟩
 ·cases v with
  | ref a =>
   simp only [Zal] at hx;simp only [Zdu];cases q:H a with
   | none=>rw [q] at hx;cases hx
   | some o=>exact hE a o q
  | _=>trivial
 ·have:=q a H' hE ha;refine rl hk (rl take_length ?_);exact this
 ·refine hs x (mem_of_getElem? hxk) H' hE _ fun H'' hE'=>⟨hE.trans hE',?_⟩
  refine rl (Zb4 hxk) (rl List.filterMap_append ?_);cases hf:f x<;>simp [hf]
section
variable {c:Cx} {P:Pg} (G:Gd c P) {n:Nat} {md:Bool} {Q:AV→Zaa→Prop} {E:String→Zaa→Prop} {H:Zaa}
noncomputable def mixed (a b:Int):Int:=(a*6364136223846793005+b*1442695040888963407+1013904223).fmod 2305843009213693951
include G in
theorem Zg2 (hf:P.fns.lookup "_law_mixed" = some BK.f__law_mixed) {a b:Int} (q:Q (.int (mixed a b)) H):CallOK c (n+1) md "_law_mixed" [.int a,.int b] Q E H:=by
 refine G.call (F:=BK.f__law_mixed) hf rfl ?_;simp [BK.f__law_mixed,Zf1,v_0,Zai,Zad,Zar,Zbl,Za6,x_ao,Zbm,Zao,Za0,Zav,Zap,Zaz,Zan,Zak,x_bm,Zbh,Zau,Zbc,Zas,Zag,Zae,Za1,Zat,Zbn,Zbk,Zbt,Zbg,tv,tsub,tattr,wtg,Zcv,Zdh,Zdt,Zbv,Zbx,Zd5,Zcj,c_lt,c_le,c_gt,c_ge,c_eq,c_ne,Zcg,Zds,c_in,Zc7,Zaj,Zd8,Zcp,Zaw,Zby,Zay,Zbq,Zam,Zax,Za3];exact ⟨IntMulOk.of_right (by decide +kernel),IntMulOk.of_right (by decide +kernel),q⟩
end
noncomputable def Zjc:List S:=[
 .assign (.var 5) (.lit (.str (ofString ""))),
 .for (.var 6) (.prim .range [(.bin .Mod (.bin .FloorDiv (.var 4) (.lit (.int 12))) (.lit (.int 11)))]) [.assign (.var 5) (.bin .Add (.var 5) (.sub (.var 2) (.bin .Mod (.bin .FloorDiv (.var 4) (.lit (.int 300))) (.lit (.int 26))))),
  .assign (.var 4) (.bin .FloorDiv (.var 4) (.lit (.int 26)))],
 .ite (.cmp .Eq (.bin .Mod (.var 1) (.lit (.int 2))) (.lit (.int 1))) [.ret (.bin .Add (.var 3) (.var 5))] [],
 .assign (.var 7) (.bin .Mod (.bin .FloorDiv (.var 1) (.lit (.int 2))) (.bin .Add (.prim .len [(.var 5)]) (.lit (.int 1)))),
 .ret (.bin .Add (.bin .Add (.slice (.var 5) none (some (.var 7)) none) (.var 3)) (.slice (.var 5) (some (.var 7)) none none))]
noncomputable def Zms (nm:String):Fn:=⟨2,["_law_k","_law_cell","_law_letters",nm,"_law_rest","_law_more","_law_j","_law_at"],
 .assign (.var 2) (.lit (.str (ofString "abcdefghijklmnopqrstuvwxyz"))) ::
 .assign (.var 3) (.bin .Add (.sub (.var 2) (.bin .Mod (.bin .FloorDiv (.var 0) (.lit (.int 26))) (.lit (.int 26)))) (.sub (.var 2) (.bin .Mod (.var 0) (.lit (.int 26))))) ::
 .assign (.var 4) (.call "_law_mixed" [(.var 1),(.lit (.int 0))]) ::
 .ite (.cmp .Eq (.bin .Mod (.var 1) (.lit (.int 2))) (.lit (.int 1))) [.assign (.var 4) (.call "_law_mixed" [(.var 1),(.var 0)]),
  .ite (.ao true [(.cmp .Eq (.bin .Mod (.var 4) (.lit (.int 12))) (.lit (.int 11))),(.cmp .Lt (.var 0) (.lit (.int 26)))]) [.ret (.sub (.var 2) (.var 0))] []] [] ::
 Zjc⟩
noncomputable def chI (i:Int):Nat:=(letters.cps[i.toNat]?).getD 0
noncomputable def Zdn (k:Int):List Nat:=[chI ((k.fdiv 26).fmod 26),chI (k.fmod 26)]
noncomputable def Zd3 (r:Int):Nat→List Nat×Int
 | 0=>([],r)
 | j+1=>((Zd3 r j).1++[chI (((Zd3 r j).2.fdiv 300).fmod 26)],(Zd3 r j).2.fdiv 26)
theorem Zfs (r:Int):∀ j,(Zd3 r j).1.length=j
 | 0=>rfl
 | j+1=>by simp [Zd3,Zfs r j]
noncomputable def Zd6 (k cl:Int):List Nat :=
 if cl.fmod 2=1 then
  let r:=mixed cl k
  if r.fmod 12=11∧k<26 then [chI k] else Zdn k++(Zd3 r ((r.fdiv 12).fmod 11).toNat).1
 else
  let r:=mixed cl 0
  let m:=(Zd3 r ((r.fdiv 12).fmod 11).toNat).1
  let a:=((cl.fdiv 2).fmod (m.length+1)).toNat
  m.take a++Zdn k++m.drop a
noncomputable def word (k cl:Int):Str:=⟨(Zd6 k cl).toArray⟩
theorem Zgr:letters.cps.size=26:=by decide +kernel
theorem Zji {Q:AV→Zaa→Prop} {H:Zaa} {i:Int} (h0:0≤i) (h1:i<26) (q:Q (.str ⟨#[chI i]⟩) H):wsub (.str letters) (.int i) Q H:=by
 have hlt:i.toNat<letters.cps.size:=by refine rl Zgr ?_;lia
 refine ⟨h0,by lia,letters.cps[i.toNat],by simp [hlt],?_⟩;have:chI i=letters.cps[i.toNat]:=by simp [chI,hlt]
 refine rl this.symm ?_;exact q
theorem Zhg {a b:List Nat}:(⟨a.toArray⟩++⟨b.toArray⟩:Str)=⟨(a++b).toArray⟩:=by
 show Str.mk _=Str.mk _;simp
theorem str_len {a:List Nat}:(⟨a.toArray⟩:Str).length=a.length:=by show a.toArray.size=_;simp
section
variable {c:Cx} {P:Pg} (G:Gd c P) {n:Nat} {Q:AV→Zaa→Prop} {E:String→Zaa→Prop} {H:Zaa}
theorem Ztt {r:Int} {w:Nat} {V:VV} {QN:VV→Zaa→Prop} {QR:AV→Zaa→Prop} {EE:String→VV→Zaa→Prop} {x0 x1 x3 x7:Option AV} {z:Addr} (hw:w≤10) (hz:H z=some (.range 0 w)) 
  (hV:V=[x0,x1,some (.str letters),x3,some (.int r),some (.str (ofString "")),none,x7])
  (q:∀ a b,QN [x0,x1,some (.str letters),x3,some (.int a),some (.str ⟨(Zd3 r w).1.toArray⟩),b,x7] H) :
  WFor QN (fun x nx V H=>wtg (.var 6) x V H fun V=>wpSs ⟨c,n,true⟩ [.assign (.var 5) (.bin .Add (.var 5) (.sub (.var 2) (.bin .Mod (.bin .FloorDiv (.var 4) (.lit (.int 300))) (.lit (.int 26))))),
   .assign (.var 4) (.bin .FloorDiv (.var 4) (.lit (.int 26)))] nx QR EE V H) (.ref z) V H:=by
 subst hV;have hlen:(((w:Int) - 0).toNat)=w:=by lia
 refine Zdb (xs:=(List.range ((w:Int) - 0).toNat).map fun (k:Nat)=>AV.int (0+k)) (by simp [Zal,hz]) (fun k V' H'=>H'=H∧∃ b,V'=[x0,x1,some (.str letters),x3,some (.int (Zd3 r k).2),some (.str ⟨(Zd3 r k).1.toArray⟩),b,x7]) ⟨rfl,none,rfl⟩ ?_;rintro I hI k V' H' ⟨rfl,b,rfl⟩;refine ⟨by simp [Zdu],fun hk=>?_,fun y hy=>?_⟩
 ·simp at hk;subst hk;exact q _ _
 ·have hk:k<w:=by
   have:=(gsi hy).1;simpa using this
  dsimp only [Zaw,Zby,Zam,tv,Zar,Zai,Zad,Zav,wtg,length_cons,length_nil,Nat.reduceAdd,set_cons_succ,set_cons_zero,getElem?_cons_succ,v_0,Zbv,ne_eq,Zbx];simp [v_0,Zai,Zad,Zar,Zbl,Za6,x_ao,Zbm,Zao,Za0,Zav,Zap,Zaz,Zan,Zak,x_bm,Zbh,Zau,Zbc,Zas,Zag,Zae,Za1,Zat,Zbn,Zbk,Zbt,Zbg,tv,tsub,tattr,wtg,Zcv,Zdh,Zdt,Zbv,Zbx,Zd5,Zcj,c_lt,c_le,c_gt,c_ge,c_eq,c_ne,Zcg,Zds,c_in,Zc7,Zaj,Zd8,Zcp,Zaw,Zby,Zay,Zbq,Zam,Zax,Za3];refine Zji (Za8 (by lia)) (Zbj (by lia)) ?_;simp [v_0,Zai,Zad,Zar,Zbl,Za6,x_ao,Zbm,Zao,Za0,Zav,Zap,Zaz,Zan,Zak,x_bm,Zbh,Zau,Zbc,Zas,Zag,Zae,Za1,Zat,Zbn,Zbk,Zbt,Zbg,tv,tsub,tattr,wtg,Zcv,Zdh,Zdt,Zbv,Zbx,Zd5,Zcj,c_lt,c_le,c_gt,c_ge,c_eq,c_ne,Zcg,Zds,c_in,Zc7,Zaj,Zd8,Zcp,Zaw,Zby,Zay,Zbq,Zam,Zax,Za3];refine ⟨?_,?_⟩
  ·have:=Zfs r k;show (Zd3 r k).1.toArray.size+1≤sizeLine;simp [this,sizeLine];lia
  ·refine hI _ _ _ ⟨rfl,some y,?_⟩;simp [Zd3];exact Zhg
theorem Zha {k cl r:Int} {EE:String→VV→Zaa→Prop} {QN:VV→Zaa→Prop} (q:∀ H',Ext H H'→Q (.str (if cl.fmod 2=1 then ⟨(Zdn k++(Zd3 r ((r.fdiv 12).fmod 11).toNat).1).toArray⟩ else
   ⟨((Zd3 r ((r.fdiv 12).fmod 11).toNat).1.take ((cl.fdiv 2).fmod ((Zd3 r ((r.fdiv 12).fmod 11).toNat).1.length+1)).toNat++Zdn k++(Zd3 r ((r.fdiv 12).fmod 11).toNat).1.drop ((cl.fdiv 2).fmod ((Zd3 r ((r.fdiv 12).fmod 11).toNat).1.length+1)).toNat).toArray⟩)) H') :
  wpSs ⟨c,n,true⟩ Zjc QN Q EE [some (.int k),some (.int cl),some (.str letters),some (.str ⟨(Zdn k).toArray⟩),some (.int r),none,none,none] H:=by
 have h0:0≤(r.fdiv 12).fmod 11:=Za8 (by decide);have h1:(r.fdiv 12).fmod 11<11:=Zbj (by decide);obtain ⟨w,hw⟩:∃ w:Nat,(r.fdiv 12).fmod 11=w:=⟨((r.fdiv 12).fmod 11).toNat,(toNat_of_nonneg h0).symm⟩
 have hw10:w≤10:=Nat.le_of_lt_succ (ofNat_lt.mp (hw▸h1));rw [hw] at q;rw [toNat_natCast] at q;show wpSs _ [_,_,_,_,_] _ _ _ _ _;refine w_st fun K nx=>?_;dsimp only [Zam,Zai,tv];refine ⟨(by decide:5<8),nx _ _ ?_⟩;refine w_st fun K nx=>?_;dsimp only [Z0h];refine ⟨rfl,?_⟩;dsimp only [Zak,set_cons_succ,set_cons_zero,wtg,Zae,Zag,Zar,Zai,Zad,getElem?_cons_succ,v_0,Zbv,ne_eq,Zbx];refine ⟨by decide,by decide,?_⟩;refine rl hw (rl Zf8 ?_);refine ⟨⟨by lia,by lia⟩,fun z hz=>?_⟩;have q':=q _ (Ext.refl.new (o:=.range 0 w) hz);refine Ztt (r:=r) (w:=w) hw10 Zac rfl fun a b=>nx _ _ ?_;have hml:=Zfs r w;generalize (Zd3 r w).1=m at q' hml ⊢;generalize up H z (.range 0 w)=H1 at q' ⊢;have hsl:∀ x:Nat,x≤100→x≤sizeLine:=fun x h=>le_trans h (by decide);refine w_st fun K nx=>?_;dsimp only [Zay];dsimp only [Zao,Zai,Zar,Zad,getElem?_cons_succ,v_0,Zbx,ne_eq,c_eq,Zaj,beq_iff_eq];refine ⟨by decide,?_⟩;by_cases hc:cl.fmod 2=1
 ·rw [if_pos hc] at q';refine rl (if_pos (beq_iff_eq.mpr hc)) ?_;dsimp only [Zaw,Zby,Zbq,Zar,Zad,getElem?_cons_succ,v_0,Zcj];refine rl Zhg (rl str_len (rl str_len (rl hml ?_)));exact ⟨hsl _ (le_trans (Nat.add_le_add_left hw10 2) (by decide)),q'⟩
 ·rw [if_neg hc] at q';refine rl (if_neg (fun e=>hc (beq_iff_eq.mp e))) ?_;refine nx _ _ ?_;refine w_st fun K nx=>?_;dsimp only [Zam,tv,length_cons,length_nil,Nat.reduceAdd,set_cons_succ,set_cons_zero,Zar,Zai,Zak,Zae,Zag,Zad,getElem?_cons_succ,v_0,Zbv,ne_eq];refine rl Zhw (rl str_len (rl hml ?_));rw [hml] at q';have ha0:0≤(cl.fdiv 2).fmod ((w:Int)+1):=Za8 (by lia);have ha1:(cl.fdiv 2).fmod ((w:Int)+1)<(w:Int)+1:=Zbj (by lia);refine ⟨by decide,lt_of_le_of_lt hw10 (by decide),by lia,by decide,nx _ _ ?_⟩;generalize (cl.fdiv 2).fmod ((w:Int)+1)=a' at q' ha0 ha1;have hs:Str.length ⟨m.toArray⟩=w:=str_len.trans hml;have t:a'.toNat≤w:=Int.toNat_le.mpr (Int.le_of_lt_add_one ha1);have t2:a'.toNat+2≤12:=Nat.add_le_add_right (le_trans t hw10) 2;have e1:min a'.toNat w=a'.toNat:=min_eq_left t;have l1:a'≤Str.length ⟨m.toArray⟩:=hs▸Int.le_of_lt_add_one ha1;have l2:Str.length ⟨m.toArray⟩≤sizeLine:=hs▸hsl _ (le_trans hw10 (by decide));have g1:Str.length ⟨(m.take a'.toNat).toArray⟩=a'.toNat:=by refine rl str_len (rl length_take (rl hml ?_));exact e1
  have g2:Str.length ⟨(m.drop a'.toNat).toArray⟩=w - a'.toNat:=by exact rl str_len (rl length_drop (rl hml rfl))
  have g3:Str.length (⟨(m.take a'.toNat).toArray⟩++⟨(Zdn k).toArray⟩)=a'.toNat+2:=by refine rl Zhg (rl str_len (rl length_append (rl length_take (rl hml (rl e1 ?_)))));rfl
  refine ⟨ha0,l1,l2,(?_:Str.length ⟨(m.take a'.toNat).toArray⟩ + Str.length ⟨(Zdn k).toArray⟩≤_),ha0,l1,l2,(?_:Str.length (⟨(m.take a'.toNat).toArray⟩++⟨(Zdn k).toArray⟩)+Str.length ⟨(m.drop a'.toNat).toArray⟩≤_),?_⟩
  ·refine rl g1 ?_;exact hsl _ (le_trans t2 (by decide))
  ·refine rl g2 (rl g3 ?_);exact hsl _ (le_trans (Nat.add_le_add t2 (le_trans (Nat.sub_le _ _) hw10)) (by decide))
  ·show Q (.str (⟨(m.take a'.toNat).toArray⟩++⟨(Zdn k).toArray⟩++⟨(m.drop a'.toNat).toArray⟩)) _;rw [Zhg,Zhg];exact q'
include G in
theorem Zvs {nm:String} (h1:P.fns.lookup "_law_word" = some (Zms nm)) (h2:P.fns.lookup "_law_mixed" = some BK.f__law_mixed) {k cl:Int} (hk:0≤k) (hk':k<600) (q:∀ H',Ext H H'→Q (.str (word k cl)) H'):CallOK c (n+2) true "_law_word" [.int k,.int cl] Q E H:=by
 refine G.call (F:=Zms nm) h1 rfl ?_;have hl:ofString "abcdefghijklmnopqrstuvwxyz" = letters:=rfl;simp only [Zms,hl];show wpSs _ (_::_::_::_::Zjc) _ _ _ [some (.int k),some (.int cl),none,none,none,none,none,none] _;refine rl Zaw (rl Zam ?_);dsimp only [tv,length_cons,length_nil,Nat.reduceAdd,set_cons_succ,set_cons_zero,Zai];refine rl Zaw (rl Zam ?_);dsimp only [tv,length_cons,length_nil,Nat.reduceAdd,set_cons_succ,set_cons_zero,Zar,Zav,Zai,Zad,v_0,Zbx,ne_eq,getElem?_cons_succ,Zbv];simp [v_0,Zai,Zad,Zar,Zbl,Za6,x_ao,Zbm,Zao,Za0,Zav,Zap,Zaz,Zan,Zak,x_bm,Zbh,Zau,Zbc,Zas,Zag,Zae,Za1,Zat,Zbn,Zbk,Zbt,Zbg,tv,tsub,tattr,wtg,Zcv,Zdh,Zdt,Zbv,Zbx,Zd5,Zcj,c_lt,c_le,c_gt,c_ge,c_eq,c_ne,Zcg,Zds,c_in,Zc7,Zaj,Zd8,Zcp];refine Zji (Za8 (by lia)) (Zbj (by lia)) ?_;refine Zji (Za8 (by lia)) (Zbj (by lia)) ?_;refine rl Zcj ?_;have htold:(⟨#[chI ((k.fdiv 26).fmod 26)]⟩++⟨#[chI (k.fmod 26)]⟩:Str)=⟨(Zdn k).toArray⟩:=rfl;refine rl htold ?_;refine ⟨by show 1+1≤sizeLine;simp [sizeLine],?_⟩;refine rl Zaw (rl Zam ?_);dsimp only [tv,length_cons,length_nil,Nat.reduceAdd,set_cons_succ,set_cons_zero,Zan,Zae,Zag,Zai,Zad,getElem?_cons_succ,v_0];refine Zg2 G h2 ?_;refine rl Zaw (rl Zay ?_);dsimp only [Zao,Zai,Zar,Zad,getElem?_cons_succ,v_0,Zbx,ne_eq,c_eq,Zaj,beq_iff_eq];simp [v_0,Zai,Zad,Zar,Zbl,Za6,x_ao,Zbm,Zao,Za0,Zav,Zap,Zaz,Zan,Zak,x_bm,Zbh,Zau,Zbc,Zas,Zag,Zae,Za1,Zat,Zbn,Zbk,Zbt,Zbg,tv,tsub,tattr,wtg,Zcv,Zdh,Zdt,Zbv,Zbx,Zd5,Zcj,c_lt,c_le,c_gt,c_ge,c_eq,c_ne,Zcg,Zds,c_in,Zc7,Zaj,Zd8,Zcp];by_cases hc:cl.fmod 2=1
 ·simp [hc,Zaj];refine rl Zaw (rl Zam ?_);dsimp only [tv,length_cons,length_nil,Nat.reduceAdd,set_cons_succ,set_cons_zero,Zan,Zae,Zag,Zad,v_0,getElem?_cons_succ];refine Zg2 G h2 ?_;refine rl Zaw (rl Zay ?_);dsimp only [x_ao,Zat,Za1,Zao,Zai,Zad,v_0,c_lt,Zaj,decide_eq_true_eq,Zar,getElem?_cons_succ,Zbx,ne_eq,c_eq,beq_iff_eq];simp [v_0,Zai,Zad,Zar,Zbl,Za6,x_ao,Zbm,Zao,Za0,Zav,Zap,Zaz,Zan,Zak,x_bm,Zbh,Zau,Zbc,Zas,Zag,Zae,Za1,Zat,Zbn,Zbk,Zbt,Zbg,tv,tsub,tattr,wtg,Zcv,Zdh,Zdt,Zbv,Zbx,Zd5,Zcj,c_lt,c_le,c_gt,c_ge,c_eq,c_ne,Zcg,Zds,c_in,Zc7,Zaj,Zd8,Zcp];by_cases hr:(mixed cl k).fmod 12=11
  ·by_cases hk2:k<26
   ·simp [hr,hk2,Zaj];refine rl Zaw (rl Zbq ?_);refine Zji hk hk2 ?_;have:=q H .refl;simpa [word,Zd6,hc,hr,hk2] using this
   ·simp [hr,hk2,Zaj];refine rl Zby (rl Zby ?_);refine Zha fun H' hE=>?_;have:=q H' hE;simpa [word,Zd6,hc,hr,hk2] using this
  ·simp [hr,Zaj];refine rl Zby (rl Zby ?_);refine Zha fun H' hE=>?_;have:=q H' hE;simpa [word,Zd6,hc,hr] using this
 ·simp [hc,Zaj];refine rl Zby ?_;refine Zha fun H' hE=>?_;have:=q H' hE;simpa [word,Zd6,hc] using this
theorem Zne (r:Int):(Zd3 r ((r.fdiv 12).fmod 11).toNat).1.length≤10:=by
 refine rl (Zfs ..) ?_;have:=Zbj (x:=r.fdiv 12) (m:=11) (by decide);omega
theorem Zsl {k cl:Int}:(word k cl).length≤12:=by
 show (Zd6 k cl).length≤12;unfold Zd6;split
 ·dsimp only;split
  ·exact (by decide:1≤12)
  ·refine rl length_append ?_;exact Nat.add_le_add (le_refl 2) (Zne _)
 ·dsimp only;refine rl (length_append ..) (rl (length_append ..) (rl (Nat.add_right_comm ..) (rl (Eq.symm (length_append ..)) (rl (List.take_append_drop ..) ?_))));exact Nat.add_le_add (Zne _) (le_refl 2)
end
theorem Zvp:∀ i:Fin 26,chI ((i.val:Nat):Int)=97+i.val:=by decide +kernel
theorem Zmn {i j:Int} (h0:0≤i) (h1:i<26) (h2:0≤j) (h3:j<26) (h:chI i=chI j):i=j:=by
 have a:=Zvp ⟨i.toNat,by lia⟩;have b:=Zvp ⟨j.toNat,by lia⟩;simp only [toNat_of_nonneg h0,toNat_of_nonneg h2] at a b;lia
theorem Zmw {k k':Int} (h0:0≤k) (h1:k<600) (h2:0≤k') (h3:k'<600) (h:Zdn k=Zdn k'):k=k':=by
 simp only [Zdn,List.cons.injEq,and_true] at h;have a:=Zmn (Za8 (by lia)) (Zbj (by lia)) (Za8 (by lia)) (Zbj (by lia)) h.1;have b:=Zmn (Za8 (by lia)) (Zbj (by lia)) (Za8 (by lia)) (Zbj (by lia)) h.2;rw [fmod_eq_emod_of_nonneg _ (by lia),fmod_eq_emod_of_nonneg _ (by lia),Int.fdiv_eq_ediv_of_nonneg _ (by lia),Int.fdiv_eq_ediv_of_nonneg _ (by lia)] at a;rw [fmod_eq_emod_of_nonneg _ (by lia),fmod_eq_emod_of_nonneg _ (by lia)] at b;lia
set_option tactic.hygienic true in
theorem Zsm {k k' cl:Int} (h0:0≤k) (h1:k<600) (h2:0≤k') (h3:k'<600) (h:word k cl=word k' cl):k=k':=by
 have h:Zd6 k cl=Zd6 k' cl:=by
  have:=congrArg (fun s=>s.cps.toList) h;simpa [word] using this
 unfold Zd6 at h;split at h
 ·dsimp only at h;split at h
  ·rename_i ha;split at h
   ·rename_i hb;simp only [List.cons.injEq,and_true] at h;exact Zmn h0 ha.2 h2 hb.2 h
   ·have:=congrArg List.length h;simp [Zdn] at this
  ·split at h
   ·have:=congrArg List.length h;simp [Zdn] at this
   ·have e:Zdn k=Zdn k':=by
     have:=congrArg (List.take 2) h;simpa [Zdn] using this
    exact Zmw h0 h1 h2 h3 e
 ·dsimp only at h;rw [append_assoc,append_assoc] at h;have:=List.append_cancel_left h;exact Zmw h0 h1 h2 h3 (List.append_cancel_right this)
theorem Zep {l:List (Str×Int)} {e:Str×Int} {s:Str}:lk (e::l) s=if e.1=s then some e.2 else lk l s:=by
 unfold lk;refine rl (find?_cons) ?_;by_cases h:e.1=s<;>simp [h]
theorem Zy9 {l:List (Str×Int)} {k s:Str} {x:Int}:lk (l.map fun e=>if e.1=k then (e.1,x) else e) s=if s=k then (lk l k).map (fun _=>x) else lk l s:=by
 induction l with
 | nil=>by_cases h:s=k<;>simp [h,lk]
 | cons e r ih =>
  refine rl map_cons (rl Zep (rl Zep (rl Zep (rl ih ?_))));by_cases h:e.1=k
  ·by_cases h2:s=k
   ·simp [h,h2]
   ·have:¬ k=s:=fun e=>h2 e.symm;simp [h,h2,this]
  ·by_cases h2:s=k
   ·simp [h,h2]
   ·simp [h,h2]
theorem Zzb {l:List (Str×Int)} {k s:Str} {x:Int} (h:lk l k=none):lk (l++[(k,x)]) s=if s=k then some x else lk l s:=by
 induction l with
 | nil=>refine rl (nil_append ..) (rl (Zep ..) ?_);by_cases h2:s=k<;>simp [h2,lk] ;exact fun e=>absurd e.symm h2
 | cons e r ih =>
  rw [Zep] at h;by_cases h1:e.1=k
  ·simp [h1] at h
  ·rw [if_neg h1] at h;refine rl List.cons_append (rl Zep (rl Zep (rl (ih h) ?_)));by_cases h2:s=k
   ·simp [h2,h1]
   ·simp [h2]
set_option tactic.hygienic true in
theorem Zza {l:List (Str×Int)} {k s:Str} {x:Int}:lk (pt l k x) s=if s=k then some x else lk l s:=by
 unfold pt;split
 ·rename_i h;refine rl Zy9 ?_;obtain ⟨y,hy⟩:=isSome_iff_exists.mp h;refine rl hy ?_;rfl
 ·rename_i h;exact Zzb (by simpa using h)
theorem Z1f {l:List (Str×Int)} {k s:Str} {x:Int}:hs (pt l k x) s=(decide (s=k)||hs l s):=by
 unfold hs;refine rl Zza ?_;by_cases h:s=k<;>simp [h]
end Mine
end
section
namespace Mine
noncomputable def pAt:List Pc→Str→Option (Nat×Pc)
 | [],_=>none
 | q::r,k=>if q.name=k then some (0,q) else (pAt r k).map fun e=>(e.1+1,e.2)
theorem Zbi {ps:List Pc} {k:Str} {j:Nat} {q:Pc} (h:pAt ps k=some (j,q)):ps[j]? = some q∧q.name=k:=by
 induction ps generalizing j with
 | nil=>cases h
 | cons q' r ih =>
  unfold pAt at h;by_cases e:q'.name=k
  ·rw [if_pos e] at h;cases h;exact ⟨rfl,e⟩
  ·rw [if_neg e] at h;obtain ⟨⟨j',q''⟩,h1,h2⟩:=map_eq_some_iff.mp h;cases h2;exact ih h1
section
variable {o:Addr→Option Role} {H H':Zaa}
theorem Zen {i:Nat} {as:List Addr} {ps:List Pc} (h:pactsAt o H i as ps) {k:Str}:Zb8 (dP ps as) k=(pAt ps k).bind fun e=>(as[e.1]?).map .ref:=by
 induction ps generalizing i as with
 | nil=>cases as with
  | nil=>rfl
  | cons=>exact h.elim
 | cons q qs ih =>
  cases as with
  | nil=>exact h.elim
  | cons a as =>
  unfold Zb8 pAt;refine rl (find?_cons) ?_;by_cases e:q.name=k
  ·refine rl (if_pos e) (rl (show decide ((q.name,AV.ref a).1=k)=true from decide_eq_true e) ?_);rfl
  ·refine rl (if_neg e) (rl (show decide ((q.name,AV.ref a).1=k)=false from decide_eq_false e) ?_);have:=ih h.2;unfold Zb8 at this;refine rl this ?_;cases pAt qs k<;>rfl
theorem Zcy {i:Nat} {as:List Addr} {ps:List Pc} {j:Nat} {q:Pc} (h:pactsAt o H i as ps) (e:ps[j]? = some q):∃ a,as[j]? = some a∧IsPact o H (i+j) a q:=by
 induction ps generalizing i as j with
 | nil=>cases e
 | cons q' qs ih =>
  cases as with
  | nil=>exact h.elim
  | cons a as =>
   cases j with
   | zero=>obtain rfl:=osi e;exact ⟨a,rfl,h.1⟩
   | succ j =>
    obtain ⟨a',h1,h2⟩:=ih h.2 e;exact ⟨a',h1,by refine rl (Eq.symm (Nat.add_assoc ..)) (rl (Nat.add_right_comm ..) ?_);exact h2⟩
theorem Zqs {a b:Nat} (h:a≠b):Role.pact a≠.pact b:=fun z=>h (Role.pact.inj z)
theorem Zvi {a b:Nat} (h:a≠b):Role.inside a≠.inside b:=fun z=>h (Role.inside.inj z)
theorem Zlz {i:Nat} {as:List Addr} {ps:List Pc} {j:Nat} {a:Addr} {q:Pc} (h:pactsAt o H i as ps) (k:KB (fun r=>r≠.pact (i+j)∧r≠.inside (i+j)) o o H H') (e:as[j]? = some a) (hq:IsPact o H' (i+j) a q):pactsAt o H' i as (ps.set j q):=by
 induction ps generalizing i as j with
 | nil=>cases as with
  | nil=>cases e
  | cons=>exact h.elim
 | cons q' qs ih =>
  cases as with
  | nil=>exact h.elim
  | cons b as =>
   cases j with
   | zero =>
    obtain rfl:=osi e;refine ⟨hq,h.2.congr k ⟨(fun z=>by contradiction),fun z=>by contradiction⟩ fun m hm=>?_⟩;have hne:m≠i+0:=ne_of_gt hm;exact ⟨⟨Zqs hne,fun z=>by contradiction⟩,(fun z=>by contradiction),Zvi hne⟩
   | succ j =>
    have hne:i≠i+(j+1):=ne_of_lt (Nat.lt_add_of_pos_right (Nat.succ_pos j));refine ⟨h.1.congr k ⟨(fun z=>by contradiction),fun z=>by contradiction⟩ ⟨⟨Zqs hne,fun z=>by contradiction⟩,(fun z=>by contradiction),Zvi hne⟩,?_⟩;rw [show i+(j+1)=i+1+j by exact rl (Eq.symm (Nat.add_assoc ..)) (rl (Nat.add_right_comm ..) rfl)] at k hq;exact ih h.2 k e hq
theorem Zzz {ps:List Pc} {as:List Addr} {j:Nat} {q q':Pc} (h:ps[j]? = some q) (e:q'.name=q.name):dP (ps.set j q') as=dP ps as:=by
 induction ps generalizing as j with
 | nil=>cases h
 | cons p ps ih =>
  cases as with
  | nil=>cases j<;>rfl
  | cons a as =>
   cases j with
   | zero=>obtain rfl:=osi h;show (q'.name,AV.ref a)::dP ps as=_;refine rl e ?_;rfl
   | succ j=>show (p.name,AV.ref a)::dP (ps.set j q') as=_;refine rl (ih h) ?_;rfl
theorem IsBook.setPact {b f s p a:Addr} {as:List Addr} {B:Bk} {j:Nat} {q q':Pc} (ib:IsBook o H b f s p as B) (hj:B.pacts[j]? = some q) (ha:as[j]? = some a) (k:KB (fun r=>r≠.pact j∧r≠.inside j) o o H H') (hq:IsPact o H' j a q') (hn:q'.name=q.name):IsBook o H' b f s p as { B with pacts:=B.pacts.set j q' }:=by
 obtain ⟨e1,h1⟩:=ib.hf;obtain ⟨e2,h2⟩:=ib.hs;obtain ⟨e3,h3⟩:=ib.hp;have n:∀ {r:Role},(∀ i,r≠.pact i)→(∀ i,r≠.inside i)→r≠.pact j∧r≠.inside j:=fun h h'=>⟨h j,h' j⟩
 refine ⟨ib.ob,ib.of,ib.os,ib.op,(k b _ _ ⟨(fun z=>by contradiction),fun z=>by contradiction⟩ ib.ob ib.hb rfl).2,⟨e1,(k f _ _ ⟨(fun z=>by contradiction),fun z=>by contradiction⟩ ib.of h1 rfl).2⟩,⟨e2,(k s _ _ ⟨(fun z=>by contradiction),fun z=>by contradiction⟩ ib.os h2 rfl).2⟩,⟨e3,?_⟩,?_⟩
 ·show H' p=some (.dict e3 (dP (B.pacts.set j q') as));refine rl (Zzz hj hn) ?_;exact (k p _ _ ⟨(fun z=>by contradiction),fun z=>by contradiction⟩ ib.op h3 rfl).2
 ·exact Zlz ib.ps (by refine rl (zero_add ..) ?_;exact k) ha (by refine rl (zero_add ..) ?_;exact hq)
end
noncomputable def Zcm (B:Bk):AV→Option (Nat×Pc)
 | .str k=>if isNm k then pAt B.pacts k else none
 | _=>none
structure HasP (P:Pg):Prop where
 a:HasA P
 need_pact:P.fns.lookup "Book.need_pact" = some BK.f_Book_need_pact
 need_open:P.fns.lookup "Book.need_open" = some BK.f_Book_need_open
section
variable {c:Cx} {P:Pg} (G:Gd c P) (U:HasP P) {n:Nat} {md:Bool} {Q:AV→Zaa→Prop} {E:String→Zaa→Prop} {H:Zaa} {o:Addr→Option Role} {b f s p:Addr} {as:List Addr} {B:Bk}
theorem Zg7 {k:Str} {no:Bool} (ib:IsBook o H b f s p as B) (q:Q (.bool ((pAt B.pacts k).isSome != no)) H):win no (.str k) (.ref p) Q H:=by
 obtain ⟨ep,hp⟩:=ib.hp
 (dsimp only [Zgt];refine rl hp ?_)
 show Q (.bool (nt no (Zb8 (dP B.pacts as) k).isSome)) H;refine rl (Zen ib.ps) (rl nt_eq.symm ?_);cases e:pAt B.pacts k with
 | none=>rw [e] at q;exact q
 | some x =>
  obtain ⟨a,h1,_⟩:=Zcy ib.ps (Zbi (j:=x.1) (q:=x.2) e).1;rw [e] at q;show Q (.bool (((as[x.1]?).map AV.ref).isSome != no)) H;refine rl h1 ?_;exact q
theorem Zfh {k:Str} {j:Nat} {x:Pc} (ib:IsBook o H b f s p as B) (e:pAt B.pacts k=some (j,x)) (q:∀ a,as[j]? = some a→IsPact o H j a x→Q (.ref a) H):wsub (.ref p) (.str k) Q H:=by
 obtain ⟨ep,hp⟩:=ib.hp;obtain ⟨a,h1,h2⟩:=Zcy ib.ps (Zbi e).1
 (dsimp only [Ze1];refine rl hp ?_)
 refine ⟨.ref a,?_,q a h1 (by rw [zero_add] at h2;exact h2)⟩;refine rl (Zen ib.ps) (rl e ?_);show (as[j]?).map AV.ref=_;refine rl h1 ?_;rfl
include G U
theorem Zeo {v:AV} (ib:IsBook o H b f s p as B) (hk:Kn H v) (q:match Zcm B v with | some (j,x)=>∀ a,as[j]? = some a→IsPact o H j a x→Q (.ref a) H | none=>E "NoPact" H):CallOK c (n+2) true "Book.need_pact" [.ref b,v] Q E H:=by
 refine G.call (F:=BK.f_Book_need_pact) U.need_pact rfl ?_;have hA:c.P.attrs=BK.attrs:=by exact rl G.hP (rl U.a.attrs rfl)
 show wpSs _ _ _ _ _ [some (.ref b),some v] _;refine w_st fun K nx=>?_;dsimp [v_0,Zai,Zad,Zar,Zbl,Za6,x_ao,Zbm,Zao,Za0,Zav,Zap,Zaz,Zan,Zak,x_bm,Zbh,Zau,Zbc,Zas,Zag,Zae,Za1,Zat,Zbn,Zbk,Zbt,Zbg,tv,wtg,Zcv,Zdh,Zdt,Zbv,Zbx,Zd5,Zcj,c_lt,c_le,c_gt,c_ge,c_eq,c_ne,Zcg,Zds,c_in,Zc7,Zaj,Zd8,Zcp,Zaw,Zby,Zay,Zbq,Zam,Zax,Za3];refine Zgf G U.a hk ?_;cases hn:Zd2 v with
 | false =>
  have:Zcm B v=none:=by cases v<;>first | rfl | (simp only [Zd2] at hn;simp [Zcm,hn])
  rw [this] at q;exact ⟨rfl,q⟩
 | true =>
  obtain ⟨k,rfl⟩:∃ k,v = .str k:=⟨_,Zeb hn⟩
  have hpv:Zcm B (.str k)=pAt B.pacts k:=if_pos hn;rw [hpv] at q
  (dsimp only [Zaj];refine Eq.mpr (if_pos (by decide)) ?_)
  refine Zc0 hA ib rfl (Zg7 ib ?_);cases e:pAt B.pacts k with
  | none =>
   rw [e] at q;exact ⟨rfl,q⟩
  | some x =>
   rw [e] at q;refine nx _ _ ?_;refine w_st fun K nx=>?_;dsimp only [Zbq,Zav];refine Zc0 hA ib rfl ?_;exact Zfh ib (j:=x.1) (x:=x.2) e q
end
end Mine
end
section
namespace Mine
noncomputable def insD (x:Pc):List (Str×AV):=x.inside.map fun k=>(k,.bool true)
section
variable {o:Addr→Option Role} {H:Zaa}
theorem Zd0:∀ {ts:List Addr} {l:List (Str×Int)} {m:Nat} {t:Addr},pairsAV o H ts l→ts[m]? = some t→∃ e,l[m]? = some e∧o t=some .data∧H t=some (.tuple [.str e.1,.int e.2])
 | t::_,e::_,0,_,h,z=>by obtain rfl:=osi z;exact ⟨e,rfl,h.1,h.2.1⟩
 | _::ts,_::l,m+1,_,h,z=>Zd0 (m:=m) h.2.2 z
 | [],[],_,_,_,z=>by cases z
 | [],_::_,_,_,h,_=>h.elim
 | _::_,[],_,_,h,_=>h.elim
theorem Zdo:∀ {ts:List Addr} {l:List (Str×Int)},pairsAV o H ts l→ts.length=l.length
 | [],[],_=>rfl
 | _::_,_::_,h=>congrArg Nat.succ (Zdo h.2.2)
 | [],_::_,h=>h.elim
 | _::_,[],h=>h.elim
theorem Ze5 {Q:AV→Zaa→Prop} {a:Addr} {xs:List AV} {i:Int} {v:AV} (h:H a=some (.tuple xs)) (h0:0≤i) (hk:xs[i.toNat]? = some v) (hl:xs.length≤100000) (q:Q v H):wsub (.ref a) (.int i) Q H:=by
 have hlt:i.toNat<xs.length:=(gsi hk).1
 (dsimp only [Zfg];refine rl h ?_)
 exact ⟨i.toNat,v,by simp only [Zf5,h0,if_true];exact rl (if_pos (by lia)) rfl,by lia,by lia,hk,q⟩
theorem Zjp {Q:AV→Zaa→Prop} {t:Addr} {k:Str} {i:Int} (h:H t=some (.tuple [.str k,.int i])) (q:Q (.str k) H):wsub (.ref t) (.int 0) Q H:=Ze5 h (by decide) rfl (by simp) q
theorem Ztj {Q:AV→Zaa→Prop} {t:Addr} {k:Str} {i:Int} (h:H t=some (.tuple [.str k,.int i])) (q:Q (.int i) H):wsub (.ref t) (.int 1) Q H:=Ze5 h (by decide) rfl (by simp) q
end
section
variable {c:Cx} {P:Pg} (G:Gd c P) (U:HasP P) {n:Nat} {md:Bool} {Q:AV→Zaa→Prop} {E:String→Zaa→Prop} {H:Zaa} {o:Addr→Option Role} {b f s p a:Addr} {as:List Addr} {B:Bk} {j:Nat} {x:Pc}
section
variable {g:Gx} {V:VV} {i:Nat} (hP:g.c.P.attrs=BK.attrs) (ip:IsPact o H j a x) (hV:V[i]? = some (some (.ref a)))
include hP ip hV
theorem Zfm (q:Q (.str x.state.str) H):wpX g (.attr (.var i) "state") V Q E H:=by
 obtain ⟨pa,ga,ne,ins,ep,h,_⟩:=ip.at_;simp only [Za5,Zad,hV,h];exact ⟨by refine rl hP ?_;rfl,q⟩
theorem Zjq (q:Q (.str x.name) H):wpX g (.attr (.var i) "name") V Q E H:=by
 obtain ⟨pa,ga,ne,ins,ep,h,_⟩:=ip.at_;simp only [Za5,Zad,hV,h];exact ⟨by refine rl hP ?_;rfl,q⟩
theorem Zwg (q:Q (.int x.last) H):wpX g (.attr (.var i) "last") V Q E H:=by
 obtain ⟨pa,ga,ne,ins,ep,h,_⟩:=ip.at_;simp only [Za5,Zad,hV,h];exact ⟨by refine rl hP ?_;rfl,q⟩
theorem Zfn (q:∀ z,PairsAt o H z x.parts→Q (.ref z) H):wpX g (.attr (.var i) "parts") V Q E H:=by
 obtain ⟨pa,ga,ne,ins,ep,h,h1,_⟩:=ip.at_;simp only [Za5,Zad,hV,h];exact ⟨by refine rl hP ?_;rfl,q pa h1⟩
theorem Ztl (q:∀ z,PairsAt o H z x.gains→Q (.ref z) H):wpX g (.attr (.var i) "gains") V Q E H:=by
 obtain ⟨pa,ga,ne,ins,ep,h,h1,h2,_⟩:=ip.at_;simp only [Za5,Zad,hV,h];exact ⟨by refine rl hP ?_;rfl,q ga h2⟩
theorem Zm8 (q:∀ z,o z=some .data→H z=some (.list (txs x.needs))→Q (.ref z) H):wpX g (.attr (.var i) "needs") V Q E H:=by
 obtain ⟨pa,ga,ne,ins,ep,h,h1,h2,h3,h4,_⟩:=ip.at_;simp only [Za5,Zad,hV,h];exact ⟨by refine rl hP ?_;rfl,q ne h3 h4⟩
theorem Zhv (q:∀ z ep,o z=some (.inside j)→H z=some (.dict ep (insD x))→(∀ ep' l,IsPact o (up H z (.dict ep' (l.map fun k=>(k,.bool true)))) j a { x with inside:=l })→Q (.ref z) H):wpX g (.attr (.var i) "inside") V Q E H:=by
 obtain ⟨h0,pa,ga,ne,ins,ep,h,h1,h2,h3,h4,h5,h6⟩:=ip;simp only [Za5,Zad,hV,h];refine ⟨by refine rl hP ?_;rfl,q ins ep h5 h6 fun ep' l=>?_⟩;have kb:∀ y,KB (fun r=>r = .data) o o H (up H ins y):=fun y=>Zjv fun r hr z=>by rw [h5] at hr;cases hr;cases z
 exact ⟨h0,pa,ga,ne,ins,ep',by refine rl (Zab (Zcb h0 h5 (by intro z;contradiction))) ?_;exact h,h1.congr (kb _) rfl,h2.congr (kb _) rfl,h3,by refine rl (Zab (Zcb h3 h5 (by intro z;contradiction))) ?_;exact h4,h5,Zac⟩
theorem Zp8 {m:String} {xs:List X} (hM:g.c.P.meths=BK.meths) (hm:BK.meths.contains ("Pact",m)=true) (hn:["name","parts","gains","needs","last","state","inside"].contains m=false)
  (q:wpXs g xs V (fun vs H=>CallOK g.c g.n g.md ("Pact."++m) (.ref a::vs) Q E H) E H):wpX g (.meth (.var i) m xs) V Q E H:=by
 obtain ⟨pa,ga,ne,ins,ep,h,_⟩:=ip.at_;simp only [Zbd,Zad,hV,h];refine ⟨by refine rl hM ?_;exact hm,?_,q⟩;simp only [contains_cons,List.contains_nil,Bool.or_false,Bool.or_eq_false_iff,beq_eq_false_iff_ne] at hn;obtain ⟨n1,n2,n3,n4,n5,n6,n7⟩:=hn;simp [Zed,n1.symm,n2.symm,n3.symm,n4.symm,n5.symm,n6.symm,n7.symm]
end
include G U
theorem Zgq {v:AV} (ib:IsBook o H b f s p as B) (hk:Kn H v) (q:match Zcm B v with | some (j,x)=>(if x.state = .opn then ∀ a,as[j]? = some a→IsPact o H j a x→Q (.ref a) H else E "NotOpen" H) | none=>E "NoPact" H):CallOK c (n+3) true "Book.need_open" [.ref b,v] Q E H:=by
 refine G.call (F:=BK.f_Book_need_open) U.need_open rfl ?_;have hA:c.P.attrs=BK.attrs:=by exact rl G.hP (rl U.a.attrs rfl)
 have hM:c.P.meths=BK.meths:=by exact rl G.hP (rl U.a.meths rfl)
 show wpSs _ _ _ _ _ [some (.ref b),some v,none] _;refine w_st fun K nx=>?_;dsimp only [Zam];refine Zbw hM (by decide) (by decide) ib rfl ?_;dsimp [v_0,Zai,Zad,Zar,Zbl,Za6,x_ao,Zbm,Zao,Za0,Zav,Zap,Zaz,Zan,Zak,x_bm,Zbh,Zau,Zbc,Zas,Zag,Zae,Za1,Zat,Zbn,Zbk,Zbt,Zbg,tv,wtg,Zcv,Zdh,Zdt,Zbv,Zbx,Zd5,Zcj,c_lt,c_le,c_gt,c_ge,c_eq,c_ne,Zcg,Zds,c_in,Zc7,Zaj,Zd8,Zcp];refine Zeo G U ib hk ?_;cases e:Zcm B v with
 | none=>rw [e] at q;exact q
 | some z =>
  obtain ⟨j,x⟩:=z;rw [e] at q;intro a ha ip;refine ⟨by decide,nx _ _ ?_⟩;refine w_st fun K nx=>?_;dsimp only [Zay,Zao];refine Zfm hA ip rfl ?_;by_cases h:x.state = .opn
  ·have q:∀ a,as[j]? = some a→IsPact o H j a x→Q (.ref a) H:=by simpa only [h,if_true] using q
   refine Eq.mpr (if_neg (by refine rl h ?_;decide)) ?_;exact nx _ _ (q a ha ip)
  ·have q:E "NotOpen" H:=by simpa only [h,if_false] using q
   refine Eq.mpr (if_pos (by revert h;cases x.state<;>decide)) ?_;exact ⟨rfl,q⟩
omit U in
theorem Zob {k:Str} (hU:P.fns.lookup "Pact.part_of" = some BK.f_Pact_part_of) (hA:c.P.attrs=BK.attrs) (ip:IsPact o H j a x) (q:Q (match lk x.parts k with | some i=>.int i | none=>.none) H):CallOK c (n+1) true "Pact.part_of" [.ref a,.str k] Q E H:=by
 refine G.call (F:=BK.f_Pact_part_of) hU rfl ?_;refine w_st fun K nx=>?_;refine ⟨rfl,?_⟩;refine Zfn hA ip rfl fun z ⟨hz,ts,hts,hl⟩=>?_;refine Zdb (xs:=ts.map .ref) (by simp only [Zal,hts]) (fun m V' H'=>H'=H∧(∃ pr,V'=[some (.ref a),some (.str k),pr])∧lk (x.parts.take m) k=none) ⟨rfl,⟨_,rfl⟩,rfl⟩ ?_;rintro I hI m V' H' ⟨rfl,⟨pr,rfl⟩,hm⟩;refine ⟨rfl,fun hlen=>?_,fun y hy=>?_⟩
 ·rw [hlen,length_map,Zdo hl,take_length] at hm;rw [hm] at q;exact nx _ _ q
 ·rw [getElem?_map,map_eq_some_iff] at hy;obtain ⟨t,ht,rfl⟩:=hy;obtain ⟨e,he,_,htt⟩:=Zd0 hl ht;refine ⟨show 2<3 by decide,?_⟩;refine w_st fun K nx=>?_;dsimp [v_0,Zai,Zad,Zar,Zbl,Za6,x_ao,Zbm,Zao,Za0,Zav,Zap,Zaz,Zan,Zak,x_bm,Zbh,Zau,Zbc,Zas,Zag,Zae,Za1,Zat,Zbn,Zbk,Zbt,Zbg,tv,wtg,Zcv,Zdh,Zdt,Zbv,Zbx,Zd5,Zcj,c_lt,c_le,c_gt,c_ge,c_eq,c_ne,Zcg,Zds,c_in,Zc7,Zaj,Zd8,Zcp,Zaw,Zby,Zay,Zbq,Zam,Zax,Za3];refine Zjp htt ?_;dsimp only [Zcg,Zaj];have hsplit:x.parts.take (m+1)=x.parts.take m++[e]:=by refine rl take_add_one (rl he ?_);rfl
  by_cases h:e.1=k
  ·refine Eq.mpr (if_pos (by refine rl h ?_;exact beq_self_eq_true k)) ?_;refine Ztj htt ?_;have:lk x.parts k=some e.2:=by
    have hlk:lk (x.parts.take (m+1)) k=some e.2:=by
     refine rl hsplit ?_;unfold lk at hm ⊢;refine rl (find?_append) (rl (map_eq_none_iff.mp hm) ?_);simp [h]
    unfold lk at hlk ⊢;obtain ⟨w,hw,hw2⟩:=map_eq_some_iff.mp hlk;refine rl (Eq.symm (List.take_append_drop (m+1) x.parts)) (rl (find?_append) (rl hw ?_));exact congrArg some hw2
   rw [this] at q;exact q
  ·refine Eq.mpr (if_neg (by simpa using h)) ?_;refine nx _ _ (hI _ _ _ ⟨rfl,⟨_,rfl⟩,?_⟩);refine rl hsplit ?_;unfold lk at hm ⊢;refine rl (find?_append) (rl (map_eq_none_iff.mp hm) ?_);simp [h]
end
end Mine
end
section
namespace Mine
noncomputable def Zmg (B:Bk) (k:Str) (i:Int):Bk:={ B with aside:=pt B.aside k ((lk B.aside k).getD 0 - i),free:=pt B.free k ((lk B.free k).getD 0+i) }
noncomputable def Zf3 (B:Bk) (v w:AV):Except String Bk :=
 if Zbz B v then
  match Zcm B w with
  | none=>.error "NoPact"
  | some (j,x)=>if x.state = .opn then
    match lk x.parts (Za2 v) with
    | none=>.error "NoPart"
    | some i=>if Za2 v∈x.inside then .error "Already" else if Zd4 B v<i then .error "TooLittle" else
      .ok { B with pacts:=B.pacts.set j { x with inside:=x.inside++[Za2 v] },free:=pt B.free (Za2 v) (Zd4 B v - i),aside:=pt B.aside (Za2 v) (Zgm B v+i) }
   else .error "NotOpen"
 else .error "NoPurse"
noncomputable def Z1q (B:Bk) (v w:AV):Except String Bk :=
 if Zbz B v then
  match Zcm B w with
  | none=>.error "NoPact"
  | some (j,x)=>if x.state = .opn then
    if Za2 v∈x.inside then .ok (Zmg { B with pacts:=B.pacts.set j { x with inside:=x.inside.filter (·≠Za2 v) } } (Za2 v) ((lk x.parts (Za2 v)).getD 0)) else .error "NotAside"
   else .error "NotOpen"
 else .error "NoPurse"
structure BkOK (B:Bk):Prop where
 sz:B.Sz
 both:∀ k,hs B.free k=true→hs B.aside k=true
 len:B.pacts.length≤100
 part:∀ (j:Nat) (x:Pc),B.pacts[j]? = some x→∀ k∈x.inside,(lk x.parts k).isSome=true
 inl:∀ (j:Nat) (x:Pc),B.pacts[j]? = some x→x.inside.length≤100∧x.parts.length≤100∧x.gains.length≤100∧x.needs.length≤100
 purse:∀ (j:Nat) (x:Pc),B.pacts[j]? = some x→∀ e:Str×Int,e∈x.parts∨e∈x.gains→hs B.free e.1=true
theorem Zd1 {B:Bk} {w:AV} {j:Nat} {x:Pc} (h:Zcm B w=some (j,x)):B.pacts[j]? = some x:=by
 unfold Zcm at h;split at h
 ·split at h
  ·exact (Zbi h).1
  ·contradiction
 ·contradiction
theorem Zg4 {l:List Str} {k:Str}:(Zb8 (l.map fun k=>(k,AV.bool true)) k).isSome=decide (k∈l):=by
 unfold Zb8
 induction l with
 | nil=>rfl
 | cons y r ih =>
  refine rl map_cons (rl (find?_cons) ?_);by_cases e:y=k
  ·refine rl (show decide ((y,AV.bool true).1=k)=true from decide_eq_true e) ?_;simp [e]
  ·refine rl (show decide ((y,AV.bool true).1=k)=false from decide_eq_false e) ?_;refine ih.trans ?_;simp [show k≠y from fun z=>e z.symm]
theorem Zlx {l:List Str} {k:Str} (h:k ∉ l):putS (l.map fun k=>(k,AV.bool true)) k (.bool true)=(l++[k]).map fun k=>(k,AV.bool true):=by
 unfold putS;refine rl Zg4 (rl (decide_eq_false h) ?_);simp
section
variable {c:Cx} {P:Pg} (G:Gd c P) (U:HasP P) {n:Nat} {md:Bool} {Q:AV→Zaa→Prop} {E:String→Zaa→Prop} {H:Zaa} {o:Addr→Option Role} {b f s p a:Addr} {as:List Addr} {B:Bk} {j:Nat} {x:Pc}
section
variable {g:Gx} {V:VV} {QN:VV→Zaa→Prop} {i m:Nat} {k:Str} (hP:g.c.P.attrs=BK.attrs) (ib:IsBook o H b f s p as B) (hj:B.pacts[j]? = some x) (ha:as[j]? = some a) (ip:IsPact o H j a x) (hV:V[i]? = some (some (.ref a)))
include hP ib hj ha ip hV
theorem Zpl (hm:V[m]? = some (some (.str k))) (hk:k ∉ x.inside) (hl:x.inside.length≤100) (q:∀ H',IsBook o H' b f s p as { B with pacts:=B.pacts.set j { x with inside:=x.inside++[k] } }→Fr1 o H o H'→QN V H'):wpT g (.sub (.attr (.var i) "inside") (.var m)) (.bool true) V QN E H:=by
 dsimp only [tsub];refine Zhv hP ip hV fun z ep hz hd up'=>?_;simp only [Zad,hm,hd];refine ⟨by rw [insD,length_map];exact le_trans hl (by decide),fun ep'=>?_⟩;rw [insD,Zlx hk];refine q _ (ib.setPact hj ha (Zjv fun r hr=>by rw [hz] at hr;obtain rfl:=osi hr;exact fun w=>w.2 rfl) (up' ep' _) rfl) (Zj6 (by refine rl hz ?_;simp))
theorem Zrb {no:Bool} {e:X} (he:∀ Q',Q' (.str k) H→wpX g e V Q' E H) (q:Q (.bool (decide (k∈x.inside) != no)) H):wpX g (.cmp (if no then .NotIn else .In) e (.attr (.var i) "inside")) V Q E H:=by
 refine he _ (Zhv hP ip hV fun z ep hz hd up'=>?_);have:win no (.str k) (.ref z) Q H:=by
  (dsimp only [Zgt];refine rl hd ?_)
  show Q (.bool (nt no (Zb8 (insD x) k).isSome)) H;rw [insD,Zg4,← nt_eq];exact q
 cases no<;>exact this
end
include G U
theorem Zsa {v w:AV} (hU:P.fns.lookup "Book.set_aside" = some BK.f_Book_set_aside) (hU2:P.fns.lookup "Pact.part_of" = some BK.f_Pact_part_of) (ib:IsBook o H b f s p as B) (hk:Kn H v) (hw:Kn H w) (ok:BkOK B)
  (q:Ends (Zf3 B v w) (fun B'=>∀ H',IsBook o H' b f s p as B'→Fr1 o H o H'→Q .none H') (fun cl=>E cl H)):CallOK c (n+4) true "Book.set_aside" [.ref b,v,w] Q E H:=by
 refine G.call (F:=BK.f_Book_set_aside) hU rfl ?_;have hA:c.P.attrs=BK.attrs:=by exact rl G.hP (rl U.a.attrs rfl)
 have hM:c.P.meths=BK.meths:=by exact rl G.hP (rl U.a.meths rfl)
 show wpSs _ _ _ _ _ [some (.ref b),some v,some w,none,none] _;unfold Zf3 at q;refine w_st fun K nx=>?_;dsimp only [Zax];refine Zbw hM (by decide) (by decide) ib rfl ?_;dsimp only [String.reduceAppend,Zae,Zag,Zad,getElem?_cons_succ,v_0];refine Zcq G U.a ib hk ?_;cases hp:Zbz B v with
 | false=>rw [hp] at q;exact q
 | true =>
 obtain ⟨k,rfl⟩:∃ k,v = .str k:=⟨_,(Zbr hp).1⟩
 have hf:=Zf6 hp;have hs':=Zfv (ok.both _ (Zbr hp).2);rw [hp] at q;refine nx _ _ ?_;refine w_st fun K nx=>?_;dsimp only [Zam];refine Zbw hM (by decide) (by decide) ib rfl ?_;dsimp only [String.reduceAppend,tv,length_cons,length_nil,Nat.reduceAdd,set_cons_succ,set_cons_zero,Zae,Zag,Zad,getElem?_cons_succ,v_0];refine Zgq G U ib hw ?_;cases e:Zcm B w with
 | none=>rw [e] at q;exact q
 | some z =>
 obtain ⟨j,x⟩:=z;rw [e] at q;have hj:=Zd1 e;show if x.state = .opn then _ else _
 by_cases ho:x.state = .opn
 case neg =>
  refine Eq.mpr (if_neg ho) ?_;rw [if_pos rfl] at q;dsimp only at q;rw [if_neg ho] at q;exact q
 refine Eq.mpr (if_pos ho) ?_;rw [if_pos rfl] at q;dsimp only at q;rw [if_pos ho] at q;intro a ha ip;refine ⟨by decide,nx _ _ ?_⟩;refine w_st fun K nx=>?_;dsimp only [Zam];refine Zp8 hA ip rfl hM (by decide) (by decide) ?_;dsimp only [String.reduceAppend,tv,length_cons,length_nil,Nat.reduceAdd,set_cons_succ,set_cons_zero,Zae,Zag,Zad,getElem?_cons_succ,v_0];refine Zob G hU2 hA ip ?_;refine ⟨by decide,nx _ _ ?_⟩;refine w_st fun K nx=>?_;cases hl:lk x.parts k with
 | none =>
  have q:E "NoPart" H:=by rw [show Za2 (.str k)=k from rfl,hl] at q;exact q
  exact ⟨rfl,q⟩
 | some i =>
 rw [show Za2 (.str k)=k from rfl,hl] at q;refine nx _ _ ?_;refine w_st fun K nx=>?_;refine Zrb (no:=false) (k:=k) hA ib hj ha ip rfl (fun Q' h=>h) ?_;by_cases hi:k∈x.inside
 ·refine rl (decide_eq_true hi) ?_;have q:E "Already" H:=by simpa only [hi,if_true,Ends] using q
  exact ⟨rfl,q⟩
 refine rl (decide_eq_false hi) ?_;have q:Ends (if Zd4 B (.str k)<i then .error "TooLittle" else .ok { B with pacts:=B.pacts.set j { x with inside:=x.inside++[k] },free:=pt B.free k (Zd4 B (.str k) - i),aside:=pt B.aside k (Zgm B (.str k)+i) }) (fun B'=>∀ H',IsBook o H' b f s p as B'→Fr1 o H o H'→Q .none H') (fun cl=>E cl H):=by simpa only [hi,if_false] using q
 refine nx _ _ ?_;refine w_st fun K nx=>?_;dsimp only [Zay,Zao,Zav];refine Zc8 hA ib rfl (Zet ib hf ?_);dsimp only [Zad,getElem?_cons_succ,v_0,c_lt,Zaj,decide_eq_true_eq];by_cases hlt:Zd4 B (.str k)<i
 ·refine rl (decide_eq_true hlt) ?_;have q:E "TooLittle" H:=by simpa only [hlt,if_true,Ends] using q
  exact ⟨rfl,q⟩
 refine rl (decide_eq_false hlt) ?_;have q:∀ H',IsBook o H' b f s p as { B with pacts:=B.pacts.set j { x with inside:=x.inside++[k] },free:=pt B.free k (Zd4 B (.str k) - i),aside:=pt B.aside k (Zgm B (.str k)+i) }→Fr1 o H o H'→Q .none H':=by simpa only [hlt,if_false,Ends] using q
 refine nx _ _ ?_;refine w_st fun K nx=>?_;dsimp only [Zam,Zai];refine Zpl (k:=k) hA ib hj ha ip rfl rfl hi (ok.inl j x hj).1 fun H1 ib1 f1=>nx _ _ ?_;refine w_st fun K nx=>?_;dsimp only [Zam,Zar,Zav];refine Zc8 hA ib1 rfl (Zet (v:=Zd4 B (.str k)) ib1 hf ?_);dsimp only [Zad,getElem?_cons_succ,v_0,Zdh];refine Zls (k:=k) hA ib1 ok.sz.1 rfl rfl fun H2 ib2 f2=>nx _ _ ?_;refine w_st fun K nx=>?_;dsimp only [Zam,Zar,Zav];refine Zeg hA ib2 rfl (Zfi (v:=Zgm B (.str k)) ib2 hs' ?_);dsimp only [Zad,getElem?_cons_succ,v_0,Zcv];refine Zm0 (k:=k) hA ib2 ok.sz.2 rfl rfl fun H3 ib3 f3=>nx _ _ ?_;exact q H3 ib3 ((f1.trans f2).trans f3)
end
end Mine
end
section
namespace Mine
noncomputable def Zgx (x:Pc):Bool:=x.state==.opn&&x.inside.length==x.parts.length
theorem Zf4 {x:Sta}:(x.str==ofString "open")=(x==.opn):=by cases x<;>decide
theorem Zuz {x:Sta}:(x.str==ofString "done")=(x==.dn):=by cases x<;>decide
theorem Zpk {x:Sta}:(x.str==ofString "fallen")=(x==.fln):=by cases x<;>decide
section
variable {c:Cx} {P:Pg} (G:Gd c P) (U:HasP P) {n:Nat} {md:Bool} {Q:AV→Zaa→Prop} {E:String→Zaa→Prop} {H:Zaa} {o:Addr→Option Role} {b f s p a:Addr} {as:List Addr} {B:Bk} {j:Nat} {x:Pc}
section
variable {g:Gx} {V:VV} {QN:VV→Zaa→Prop} {i m:Nat} {k:Str} (hP:g.c.P.attrs=BK.attrs) (ib:IsBook o H b f s p as B) (hj:B.pacts[j]? = some x) (ha:as[j]? = some a) (ip:IsPact o H j a x) (hV:V[i]? = some (some (.ref a)))
include hP ib hj ha ip hV
end
include G U
set_option tactic.hygienic true in
omit U in
theorem Zot (hU:P.fns.lookup "Pact.is_full" = some BK.f_Pact_is_full) (hA:c.P.attrs=BK.attrs) (ip:IsPact o H j a x) (h1:x.inside.length≤100) (h2:x.parts.length≤100) (q:Q (.bool (Zgx x)) H):CallOK c (n+1) md "Pact.is_full" [.ref a] Q E H:=by
 refine G.call (F:=BK.f_Pact_is_full) hU rfl ?_;show wpSs _ _ _ _ _ [some (.ref a)] _;refine w_st fun K nx=>?_;dsimp only [Zbq,x_ao,Zat,Zao];refine Zfm hA ip rfl ?_
 (dsimp only [Zai,Zcg,Zaj];refine rl Zf4 ?_)
 unfold Zgx at q;cases hs:x.state==Sta.opn with
 | false=>rw [hs] at q;exact q
 | true =>
  rw [hs] at q;refine Eq.mpr (if_pos rfl) (Eq.mpr (Za1) (Eq.mpr (Zao) (Eq.mpr (Zak) (Eq.mpr (Zae) ?_))));refine Zhv hA ip rfl fun z ep hz hd _=>?_;refine rl Zag (rl Ze2 (rl hd ?_));refine ⟨by rw [insD,length_map];exact lt_of_le_of_lt (by assumption) (by decide),?_⟩;refine rl Zak (rl Zae ?_);refine Zfn hA ip rfl fun z' ⟨_,ts,hts,hl⟩=>?_
  (dsimp only [Zag,Ze2];refine rl hts ?_)
  have e1:=Zdo hl;refine ⟨by refine rl (length_map ..) ?_;lia,?_⟩
  (dsimp only [c_eq];rw [insD,length_map,length_map,e1])
  have:(((x.inside.length:Nat):Int)==((x.parts.length:Nat):Int))=(x.inside.length==x.parts.length):=by
   by_cases h:x.inside.length=x.parts.length
   ·refine rl h ?_;simp
   ·refine rl (beq_eq_false_iff_ne.mpr h) ?_;exact beq_eq_false_iff_ne.mpr fun z=>h (Int.ofNat.inj z)
  refine rl this ?_;exact q
theorem Zkd {v:AV} (hU:P.fns.lookup "Book.state_of" = some BK.f_Book_state_of) (ib:IsBook o H b f s p as B) (hk:Kn H v) (q:match Zcm B v with | some (j,x)=>Q (.str x.state.str) H | none=>E "NoPact" H):CallOK c (n+3) true "Book.state_of" [.ref b,v] Q E H:=by
 refine G.call (F:=BK.f_Book_state_of) hU rfl ?_;have hA:c.P.attrs=BK.attrs:=by exact rl G.hP (rl U.a.attrs rfl)
 have hM:c.P.meths=BK.meths:=by exact rl G.hP (rl U.a.meths rfl)
 refine w_st fun K nx=>?_;dsimp only [Zbq,Za5];refine Zbw hM (by decide) (by decide) ib rfl ?_;refine Zeo G U ib hk ?_;cases e:Zcm B v with
 | none=>rw [e] at q;exact q
 | some z =>
  obtain ⟨j,x⟩:=z;rw [e] at q;intro a ha ip;obtain ⟨pa,ga,ne,ins,ep,h,_⟩:=ip.at_;show match H a with | some (.inst _ _)=>_ | some (.book _)=>_ | _=>False
  refine rl h ?_;exact ⟨by refine rl hA ?_;rfl,q⟩
end
end Mine
end
section
namespace Mine
noncomputable def Zcr (ins:List Str):List (Str×Int)→Bk→Bk
 | [],B=>B
 | e::l,B=>Zcr ins l (if e.1∈ins then Zmg B e.1 e.2 else B)
noncomputable def Zdf (B:Bk) (j:Nat) (x:Pc):Bk:={ Zcr x.inside x.parts B with pacts:=B.pacts.set j { x with inside:=[],state:=.fln } }
theorem Zeq {ins:List Str} {e:Str×Int}:∀ {l:List (Str×Int)} {B:Bk},Zcr ins (l++[e]) B=(if e.1∈ins then Zmg (Zcr ins l B) e.1 e.2 else Zcr ins l B)
 | [],B=>rfl
 | e'::l,B=>Zeq (l:=l)
theorem Zel {l:List (Str×Int)} {k:Str} {x:Int} (h:hs l k=true):(pt l k x).length=l.length∧∀ s,hs (pt l k x) s=hs l s:=by
 refine ⟨?_,fun s=>?_⟩
 ·unfold pt;exact rl (if_pos (show (lk l k).isSome=true from h) ..) (rl (length_map ..) rfl)
 ·refine rl Z1f ?_;by_cases e:s=k
  ·refine rl e (rl h ?_);simp
  ·simp [e]
structure SameB (B B':Bk):Prop where
 day:B'.day=B.day
 fl:B'.free.length=B.free.length
 al:B'.aside.length=B.aside.length
 fh:∀ s,hs B'.free s=hs B.free s
 ah:∀ s,hs B'.aside s=hs B.aside s
theorem SameB.refl {B:Bk}:SameB B B:=⟨rfl,rfl,rfl,fun _=>rfl,fun _=>rfl⟩
theorem SameB.trans {B B' B'':Bk} (x:SameB B B') (y:SameB B' B''):SameB B B'':=⟨y.day.trans x.day,y.fl.trans x.fl,y.al.trans x.al,fun s=>(y.fh s).trans (x.fh s),fun s=>(y.ah s).trans (x.ah s)⟩
theorem SameB.give {B:Bk} {k:Str} {i:Int} (h:hs B.free k=true) (h':hs B.aside k=true):SameB B (Zmg B k i):=⟨rfl,(Zel h).1,(Zel h').1,(Zel h).2,(Zel h').2⟩
theorem SameB.all {ins:List Str}:∀ {l:List (Str×Int)} {B:Bk},(∀ e∈l,hs B.free e.1=true∧hs B.aside e.1=true)→SameB B (Zcr ins l B)∧(Zcr ins l B).pacts=B.pacts
 | [],B,_=>⟨.refl,rfl⟩
 | e::l,B,h=>by
  have h0:=h e mem_cons_self;unfold Zcr;by_cases hi:e.1∈ins
  ·refine rl (if_pos hi) ?_;have s1:=SameB.give (i:=e.2) h0.1 h0.2;obtain ⟨s2,p2⟩:=SameB.all (ins:=ins) (l:=l) (B:=Zmg B e.1 e.2) fun e' he=>by refine rl (s1.fh ..) (rl (s1.ah ..) ?_);exact h e' (mem_cons_of_mem _ he)
   exact ⟨s1.trans s2,p2⟩
  ·refine rl (if_neg hi) ?_;exact SameB.all fun e' he=>h e' (mem_cons_of_mem _ he)
theorem BkOK.keep {B B':Bk} (ok:BkOK B) (sm:SameB B B') (hl:B'.pacts.length=B.pacts.length) (hp:∀ (j:Nat) (y:Pc),B'.pacts[j]? = some y→∃ x,B.pacts[j]? = some x∧y.parts=x.parts∧y.gains=x.gains∧y.needs=x.needs∧∀ k∈y.inside,(lk x.parts k).isSome=true) (hi:∀ (j:Nat) (y:Pc),B'.pacts[j]? = some y→y.inside.length≤100):BkOK B':=by
 refine ⟨⟨by refine rl sm.fl ?_;exact ok.sz.1,by refine rl sm.al ?_;exact ok.sz.2⟩,fun k h=>?_,by refine rl hl ?_;exact ok.len,fun j y hy k hk=>?_,fun j y hy=>?_,fun j y hy e he=>?_⟩
 ·refine rl (sm.ah ..) ?_;rw [sm.fh] at h;exact ok.both k h
 ·obtain ⟨x,h1,h2,h3,h4,h5⟩:=hp j y hy;refine rl h2 ?_;exact h5 k hk
 ·obtain ⟨x,h1,h2,h3,h4,h5⟩:=hp j y hy;have:=ok.inl j x h1;exact ⟨hi j y hy,by refine rl h2 ?_;exact this.2.1,by refine rl h3 ?_;exact this.2.2.1,by refine rl h4 ?_;exact this.2.2.2⟩
 ·obtain ⟨x,h1,h2,h3,h4,h5⟩:=hp j y hy;rw [h2,h3] at he;refine rl (sm.fh ..) ?_;exact ok.purse j x h1 e he
set_option tactic.hygienic true in
theorem Zhm {ps:List Pc} {j m:Nat} {x' y:Pc} (h:(ps.set j x')[m]? = some y):(m=j∧y=x'∧j<ps.length)∨(m≠j∧ps[m]? = some y):=by
 rw [List.getElem?_set] at h;by_cases e:j=m
 ·rw [if_pos e] at h;split at h
  ·obtain rfl:=osi h;exact .inl ⟨e.symm,rfl,by assumption⟩
  ·contradiction
 ·rw [if_neg e] at h;exact .inr ⟨fun z=>e z.symm,h⟩
theorem BkOK.giveAble {B:Bk} {j:Nat} {x:Pc} (ok:BkOK B) (hj:B.pacts[j]? = some x):∀ e∈x.parts,hs B.free e.1=true∧hs B.aside e.1=true:=fun e he=>have h:=ok.purse j x hj e (.inl he);⟨h,ok.both _ h⟩
theorem BkOK.fell {B:Bk} {j:Nat} {x:Pc} (ok:BkOK B) (hj:B.pacts[j]? = some x):BkOK (Zdf B j x):=by
 obtain ⟨sm,hp⟩:=SameB.all (ins:=x.inside) (ok.giveAble hj);refine ok.keep ⟨sm.day,sm.fl,sm.al,sm.fh,sm.ah⟩ length_set (fun m y hy=>?_) fun m y hy=>?_
 ·rcases Zhm hy with ⟨rfl,rfl,_⟩ | ⟨_,h⟩
  ·exact ⟨x,hj,rfl,rfl,rfl,fun k hk=>by contradiction⟩
  ·exact ⟨y,h,rfl,rfl,rfl,ok.part m y h⟩
 ·rcases Zhm hy with ⟨rfl,rfl,_⟩ | ⟨_,h⟩
  ·exact zero_le _
  ·exact (ok.inl m y h).1
section
variable {c:Cx} {P:Pg} (G:Gd c P) (U:HasP P) {n:Nat} {md:Bool} {Q:AV→Zaa→Prop} {E:String→Zaa→Prop} {H:Zaa} {o:Addr→Option Role} {b f s p a:Addr} {as:List Addr} {B:Bk} {j:Nat} {x:Pc}
theorem IsBook.pact (ib:IsBook o H b f s p as B) (hj:B.pacts[j]? = some x) (ha:as[j]? = some a):IsPact o H j a x:=by
 obtain ⟨a',h1,h2⟩:=Zcy ib.ps hj;rw [ha] at h1;obtain rfl:=osi h1;rw [zero_add] at h2;exact h2
def KD (o:Addr→Option Role) (H H':Zaa):Prop:=∀ y,o y=some .data→H' y=H y
theorem KD.up {y:Addr} {z:AObj} {r:Role} (h:o y=some r) (hr:r≠.data):KD o H (up H y z):=fun w hw=>Zab fun e=>by subst e;rw [h] at hw;obtain rfl:=osi hw;exact hr rfl
theorem KD.trans {H' H'':Zaa} (h:KD o H H') (h':KD o H' H''):KD o H H'':=fun y hy=>(h' y hy).trans (h y hy)
include G U
omit U in
theorem Zjx {k:Str} {i:Int} (hU:P.fns.lookup "Book.given_back" = some BK.f_Book_given_back) (hA:c.P.attrs=BK.attrs) (ib:IsBook o H b f s p as B) (hz:B.Sz) (hf:hs B.free k=true) (hs':hs B.aside k=true) (q:∀ H',IsBook o H' b f s p as (Zmg B k i)→Fr1 o H o H'→KD o H H'→Q .none H'):CallOK c (n+1) true "Book.given_back" [.ref b,.str k,.int i] Q E H:=by
 refine G.call (F:=BK.f_Book_given_back) hU rfl ?_;show wpSs _ _ _ _ _ [some (.ref b),some (.str k),some (.int i)] _;obtain ⟨ef,hf0⟩:=ib.hf;obtain ⟨es,hs0⟩:=ib.hs;have hfs:f≠s:=Zcb ib.of ib.os (by intro h;contradiction);refine w_st fun K nx=>?_;dsimp only [Zam,Zar,Zav];refine Zeg hA ib rfl (Zfi ib (Zfv hs') ?_);dsimp only [Zad,getElem?_cons_succ,v_0,Zdh,tsub];refine Zeg hA ib rfl ?_;dsimp only [Nat.reducePow,Zad,getElem?_cons_succ,v_0];refine rl hs0 ?_;refine ⟨by refine rl Zgv ?_;exact hz.2,fun e1=>nx _ _ ?_⟩;refine rl Zhn ?_;have ib1:=ib.setAside e1 (pt B.aside k ((lk B.aside k).getD 0 - i));refine w_st fun K nx=>?_;dsimp only [Zam,Zar,Zav];refine Zc8 hA ib1 rfl (Zet (v:=(lk B.free k).getD 0) ib1 (Zfv hf) ?_);dsimp only [Zad,getElem?_cons_succ,v_0,Zcv,tsub];refine Zc8 hA ib1 rfl ?_;dsimp only [Nat.reducePow,Zad,getElem?_cons_succ,v_0];refine rl (Zab hfs) (rl hf0 ?_);refine ⟨by refine rl Zgv ?_;exact hz.1,fun e2=>nx _ _ ?_⟩;refine rl Zhn ?_;exact q _ (ib1.setFree e2 _) ((Zj6 (by refine rl ib.os ?_;simp)).trans (Zj6 (by refine rl ib.of ?_;simp))) ((KD.up ib.os (by intro h;contradiction)).trans (KD.up ib.of (by intro h;contradiction)))
theorem Zmj (hU:P.fns.lookup "Book.fell" = some BK.f_Book_fell) (hU2:P.fns.lookup "Book.given_back" = some BK.f_Book_given_back) (ib:IsBook o H b f s p as B) (ok:BkOK B) (hj:B.pacts[j]? = some x) (ha:as[j]? = some a)
  (q:∀ o' H',IsBook o' H' b f s p as (Zdf B j x)→Fr1 o H o' H'→Q (.str x.name) H'):CallOK c (n+2) true "Book.fell" [.ref b,.ref a] Q E H:=by
 refine G.call (F:=BK.f_Book_fell) hU rfl ?_;have hA:c.P.attrs=BK.attrs:=by exact rl G.hP (rl U.a.attrs rfl)
 have hM:c.P.meths=BK.meths:=by exact rl G.hP (rl U.a.meths rfl)
 have hC:∀ n,BK.attrs.contains ("Pact",n)=true→c.P.attrs.contains ("Pact",n)=true:=fun n h=>by refine rl hA ?_;exact h
 have able:=ok.giveAble hj;refine w_st fun K nx=>?_;refine ⟨rfl,?_⟩;refine Zfn hA (ib.pact hj ha) rfl fun z ⟨hz,ts,hts,hl⟩=>?_;refine Zdb (xs:=ts.map .ref) (by simp only [Zal,hts]) (fun m V' H'=>(∃ pr,V'=[some (.ref b),some (.ref a),pr])∧IsBook o H' b f s p as (Zcr x.inside (x.parts.take m) B)∧Fr1 o H o H'∧KD o H H') ⟨⟨_,rfl⟩,by refine rl take_zero ?_;exact ib,.refl,fun _ _=>rfl⟩ ?_;rintro I hI m V' H' ⟨⟨pr,rfl⟩,ib',fr',kd'⟩;obtain ⟨sm,hp⟩:=SameB.all (ins:=x.inside) (l:=x.parts.take m) (B:=B) fun e he=>able e (mem_of_mem_take he);have hj':(Zcr x.inside (x.parts.take m) B).pacts[j]? = some x:=by refine rl hp ?_;exact hj
 refine ⟨kd' z hz,fun hlen=>?_,fun y hy=>?_⟩
 ·rw [hlen,length_map,Zdo hl,take_length] at ib' sm hp hj';refine nx _ _ ?_;obtain ⟨h0,pa,ga,ne,ins,ep,h,h1,h2,h3,h4,h5,h6⟩:=ib'.pact hj' ha;refine w_st fun K nx=>?_;intro w hw;have haw:a≠w:=fun e=>by rw [e,hw] at h;contradiction
  refine st_a rfl (hC _ rfl) (by refine rl (Zab haw) ?_;exact h) (by exact (show 7≤100 by decide)) (nx _ _ ?_);refine w_st fun K nx=>?_;dsimp only [Zam,Zai];refine st_a rfl (hC _ rfl) Zac (by exact (show 7≤100 by decide)) (nx _ _ ?_);have kb0:KB (fun _=>True) o (fun y=>if y=w then some (.inside j) else o y) H' (Mine.up H' w (.dict 0 [])):=fun y r v _ hr hv _=>by
   have:y≠w:=fun e=>by rw [e,hw] at hv;contradiction
   exact ⟨(if_neg this).trans hr,by refine rl (Zab this) ?_;exact hv⟩
  have ib1:=ib'.congr kb0;generalize ho:(fun y=>if y=w then some (Role.inside j) else o y)=o' at kb0 ib1;have hoa:o' a=some (.pact j):=by refine rl ho.symm ?_;exact (if_neg haw).trans h0
  have how:o' w=some (.inside j):=by refine rl ho.symm ?_;exact if_pos rfl
  have kb1:∀ {X:Zaa} {y:AObj},KB (fun r=>r≠.pact j∧r≠.inside j) o' o' X (Mine.up X a y):=Zjv fun r hr=>by rw [hoa] at hr;obtain rfl:=osi hr;exact fun z=>z.1 rfl
  have kbd:∀ {X:Zaa} {y:AObj},KB (fun r=>r = .data) o' o' X (Mine.up X a y):=Zjv fun r hr=>by rw [hoa] at hr;cases hr;exact fun z=>by cases z
  have kb0':KB (fun r=>r = .data) o o' H' (Mine.up H' w (.dict 0 [])):=fun y r v _ hr hv hb=>kb0 y r v trivial hr hv hb;have ip:IsPact o' (Mine.up (Mine.up (Mine.up H' w (.dict 0 [])) a (.inst "Pact" (putA [("name",.str x.name),("parts",.ref pa),("gains",.ref ga),("needs",.ref ne),("last",.int x.last),("state",.str x.state.str),("inside",.ref ins)] "inside" (.ref w)))) a (.inst "Pact" (putA (putA [("name",.str x.name),("parts",.ref pa),("gains",.ref ga),("needs",.ref ne),("last",.int x.last),("state",.str x.state.str),("inside",.ref ins)] "inside" (.ref w)) "state" (.str (ofString "fallen"))))) j a { x with inside:=[],state:=.fln }:=by
   refine ⟨hoa,pa,ga,ne,w,0,Zac,((h1.congr kb0' rfl).congr kbd rfl).congr kbd rfl,((h2.congr kb0' rfl).congr kbd rfl).congr kbd rfl,?_,?_,how,?_⟩
   ·exact (kb0' ne _ _ rfl h3 h4 rfl).1
   ·have:=kb0' ne _ _ rfl h3 h4 rfl;have hna:ne≠a:=Zcb this.1 hoa (by intro z;contradiction);refine rl (Zab hna) (rl (Zab hna) ?_);exact this.2
   ·refine rl (Zab haw.symm) (rl (Zab haw.symm) (rl Zac ?_));rfl
  refine w_st fun K nx=>?_;dsimp only [Zbq];refine Zjq hA ip rfl ?_;have ib2:=ib1.setPact hj' ha (fun y r v hr ho hv hb=>kb1 y r v hr ho (kb1 y r v hr ho hv hb).2 hb) ip rfl;rw [hp] at ib2;refine q o' _ ib2 (fr'.trans ⟨fun y v hy ho'=>?_,fun y h=>Zdm (Zdm (Zdm h))⟩);have hyw:y≠w:=fun e=>by rw [e,hw] at hy;contradiction
  have hya:y≠a:=fun e=>by rw [e,h0] at ho';contradiction
  exact ⟨by refine rl (Zab hya) (rl (Zab hya) (rl (Zab hyw) ?_));exact hy,by refine rl ho.symm ?_;exact (if_neg hyw).trans ho'⟩
 ·rw [getElem?_map,map_eq_some_iff] at hy;obtain ⟨t,ht,rfl⟩:=hy;obtain ⟨e,he,htd,htt⟩:=Zd0 hl ht;have htt':H' t=some (.tuple [.str e.1,.int e.2]):=by refine rl (kd' t htd) ?_;exact htt
  refine ⟨show 2<3 by decide,?_⟩;refine w_st fun K nx=>?_;have hsplit:x.parts.take (m+1)=x.parts.take m++[e]:=by refine rl take_add_one (rl he ?_);rfl
  refine Zrb (no:=false) (k:=e.1) hA ib' hj' ha (ib'.pact hj' ha) rfl (fun Q' h=>Zjp htt' h) ?_;by_cases hi:e.1∈x.inside
  ·refine rl (decide_eq_true hi) ?_;refine w_st fun K2 nx2=>?_;dsimp only [Zax];refine Zbw hM (by decide) (by decide) ib' rfl ?_;refine Eq.mpr (Zae) (Eq.mpr (Zav) ?_);refine Zjp htt' ?_;refine rl Zae (rl Zav ?_);refine Ztj htt' ?_;have hem:e∈x.parts:=mem_of_getElem? he;refine Zjx G hU2 hA ib' ⟨by refine rl (sm.fl ..) ?_;exact ok.sz.1,by refine rl (sm.al ..) ?_;exact ok.sz.2⟩ (by refine rl (sm.fh ..) ?_;exact (able e hem).1) (by refine rl (sm.ah ..) ?_;exact (able e hem).2) fun H2 ib2 fr2 kd2=>nx2 _ _ (nx _ _ (hI _ _ _ ⟨⟨_,rfl⟩,?_,fr'.trans fr2,kd'.trans kd2⟩));refine rl hsplit (rl Zeq (rl (if_pos hi) ?_));exact ib2
  ·refine rl (decide_eq_false hi) ?_;refine nx _ _ (hI _ _ _ ⟨⟨_,rfl⟩,?_,fr',kd'⟩);refine rl hsplit (rl Zeq (rl (if_neg hi) ?_));exact ib'
end
end Mine
end
section
namespace Mine
noncomputable def fAt (g:Pc→Bool):List Pc→Option (Nat×Pc)
 | []=>none
 | q::r=>if g q then some (0,q) else (fAt g r).map fun e=>(e.1+1,e.2)
theorem Zml {g:Pc→Bool}:∀ {ps:List Pc} {m:Nat} {x:Pc},(∀ i y,i<m→ps[i]? = some y→g y=false)→ps[m]? = some x→g x=true→fAt g ps=some (m,x)
 | q::r,0,x,_,h,hg=>by obtain rfl:=osi h;unfold fAt;exact rl (if_pos hg) rfl
 | q::r,m+1,x,hi,h,hg=>by
  unfold fAt;refine rl (if_neg (by rw [hi 0 q (Nat.succ_pos m) rfl];decide)) (rl (Zml (ps:=r) (m:=m) (fun i y hm hy=>hi (i+1) y (Nat.succ_lt_succ hm) hy) h hg) ?_);rfl
 | [],_,_,_,h,_=>by contradiction
theorem Zjz {g:Pc→Bool}:∀ {ps:List Pc},(∀ (i:Nat) y,ps[i]? = some y→g y=false)→fAt g ps=none
 | [],_=>rfl
 | q::r,h=>by
  unfold fAt;refine rl (if_neg (by rw [h 0 q rfl];decide)) (rl (Zjz (ps:=r) fun i y hy=>h (i+1) y hy) ?_);rfl
theorem Zh9 {g:Pc→Bool} {ps:List Pc} {m:Nat} {x:Pc} (h:fAt g ps=some (m,x)):ps[m]? = some x∧g x=true:=by
 induction ps generalizing m with
 | nil=>cases h
 | cons q r ih =>
  unfold fAt at h;by_cases hg:g q=true
  ·rw [if_pos hg] at h;cases h;exact ⟨rfl,hg⟩
  ·rw [if_neg hg] at h;obtain ⟨⟨m',x'⟩,h1,h2⟩:=map_eq_some_iff.mp h;cases h2;exact ih h1
noncomputable def Zbo (B:Bk) (k:Str):Bool:=match pAt B.pacts k with
 | some e=>e.2.state==.fln
 | none=>false
noncomputable def Zic (B:Bk) (x:Pc):Bool:=x.state==.opn&&x.needs.any (Zbo B)
noncomputable def Zcd (B:Bk):Option (Nat×Pc):=fAt (Zic B) B.pacts
noncomputable def Za9:Nat→Bk→List Str→Bk×List Str
 | 0,B,l=>(B,l)
 | n+1,B,l=>match Zcd B with
  | none=>(B,l)
  | some e=>Za9 n (Zdf B e.1 e.2) (l++[e.2.name])
noncomputable def Zqb (B:Bk):Nat:=B.pacts.countP fun q=>q.state==.opn
theorem Zo3 {g:Pc→Bool} {ps:List Pc} {j:Nat} {x x':Pc} (h:ps[j]? = some x) (h1:g x=true) (h2:g x'=false):(ps.set j x').countP g+1=ps.countP g:=by
 induction ps generalizing j with
 | nil=>cases h
 | cons q r ih =>
  cases j with
  | zero=>obtain rfl:=osi h;exact rl set_cons_zero (rl (List.countP_cons_of_neg (by rw [h2];exact Bool.false_ne_true)) (rl (List.countP_cons_of_pos h1) rfl))
  | succ j=>exact rl (set_cons_succ ..) (rl (List.countP_cons ..) (rl (List.countP_cons ..) (rl (Nat.add_right_comm ..) (rl (ih h ..) rfl))))
theorem Zgb {B:Bk} {j:Nat} {x:Pc} (h:B.pacts[j]? = some x) (ho:(x.state==.opn)=true):Zqb (Zdf B j x)+1=Zqb B:=Zo3 h ho rfl
section
variable {o:Addr→Option Role} {H:Zaa} {b f s p:Addr} {as:List Addr} {B:Bk}
theorem Zgk:∀ {i:Nat} {as:List Addr} {ps:List Pc},pactsAt o H i as ps→(dP ps as).map (·.2)=as.map AV.ref∧as.length=ps.length
 | _,[],[],_=>⟨rfl,rfl⟩
 | i,a::as,q::qs,h=>by
  obtain ⟨h1,h2⟩:=Zgk h.2;exact ⟨by rw [dP,map_cons,h1];rfl,congrArg Nat.succ h2⟩
 | _,[],_::_,h=>h.elim
 | _,_::_,[],h=>h.elim
theorem IsBook.upN (ib:IsBook o H b f s p as B) {z:Addr} (hz:o z=none) (y:AObj):IsBook o (up H z y) b f s p as B :=
 ib.congr fun a r v _ hr hv _=>⟨hr,by refine rl (Zab (fun e=>by rw [e,hz] at hr;contradiction)) ?_;exact hv⟩
end
section
variable {c:Cx} {P:Pg} (G:Gd c P) (U:HasP P) {n:Nat} {md:Bool} {Q:AV→Zaa→Prop} {E:String→Zaa→Prop} {H:Zaa} {o:Addr→Option Role} {b f s p a:Addr} {as:List Addr} {B:Bk} {j:Nat} {x:Pc}
theorem Zhc {g:Gx} {V:VV} {i:Nat} (hP:g.c.P.attrs=BK.attrs) (hmd:g.md=true) (ib:IsBook o H b f s p as B) (hl:B.pacts.length≤100) (hV:V[i]? = some (some (.ref b)))
  (q:∀ z o' H',H z=none→o' z=none→H' z=some (.list (as.map .ref))→IsBook o' H' b f s p as B→Fr1 o H o' H'→Q (.ref z) H'):wpX g (.prim .list [.bm (.attr (.var i) "pacts") .values []]) V Q E H:=by
 obtain ⟨ep,hp⟩:=ib.hp;obtain ⟨e1,e2⟩:=Zgk ib.ps;have e3:(dP B.pacts as).length=as.length:=by have:=congrArg List.length e1;simpa using this
 dsimp only [Zak,Zae,x_bm];refine Zc0 hP ib hV ⟨?_,?_⟩
 ·show match H p with | some (.list _)=>_ | some (.dict _ _)=>_ | _=>False
  refine rl hp ?_;exact .inl rfl
 (dsimp only [Zag,Zwp];refine rl hp ?_)
 intro z1 hz1;have hpz:p≠z1:=fun e=>by rw [e,hz1] at hp;contradiction
 obtain ⟨ib1,f1⟩:=ib.fresh hz1 (.vals p)
 (dsimp only [Zag,Zd9];refine rl Zac ?_)
 show match up H z1 (.vals p) p with | some (.dict _ _)=>_ | _=>False
 refine rl (Zab hpz) (rl hp ?_);refine ⟨hmd,by refine rl e3 (rl e2 ?_);exact le_trans hl (by decide),fun z2 hz2=>?_⟩;obtain ⟨ib2,f2⟩:=ib1.fresh hz2 (.list ((dP B.pacts as).map (·.2)));have hz0:H z2=none:=by
  have hne:z2≠z1:=fun e=>by rw [e,Zac] at hz2;contradiction
  rw [Zab hne] at hz2;exact hz2
 exact q z2 _ _ hz0 (if_pos rfl) (by exact rl Zac (rl e1 rfl)) ib2 (f1.trans f2)
theorem Zkl {g:Gx} {V:VV} {e:X} (hP:g.c.P.attrs=BK.attrs) (ip:IsPact o H j a x) (he:∀ Q':AV→Zaa→Prop,Q' (.ref a) H→wpX g e V Q' E H) (q:Q (.str x.state.str) H):wpX g (.attr e "state") V Q E H:=by
 obtain ⟨pa,ga,ne,ins,ep,h,_⟩:=ip.at_;refine he _ ?_;show match H a with | some (.inst _ _)=>_ | some (.book _)=>_ | _=>False
 refine rl h ?_;exact ⟨by refine rl hP ?_;rfl,q⟩
include G U
theorem Zeh (hU:P.fns.lookup "Book.first_dragged" = some BK.f_Book_first_dragged) (ib:IsBook o H b f s p as B) (ok:BkOK B)
  (q:∀ o' H',IsBook o' H' b f s p as B→Fr1 o H o' H'→match Zcd B with | some e=>∀ a,as[e.1]? = some a→Q (.ref a) H' | none=>Q .none H'):CallOK c (n+1) true "Book.first_dragged" [.ref b] Q E H:=by
 refine G.call (F:=BK.f_Book_first_dragged) hU rfl ?_;have hA:c.P.attrs=BK.attrs:=by rw [G.hP,U.a.attrs]
 refine w_st fun K nx=>?_;refine ⟨rfl,?_⟩;refine Zhc hA rfl ib ok.len rfl fun z o' H1 _ hzo hz1 ib1 f1=>?_;have q:=q o' H1 ib1 f1;obtain ⟨_,e2⟩:=Zgk ib1.ps;refine Zdb (xs:=as.map .ref) (by simp only [Zal,hz1]) (fun m V' H'=>H'=H1∧(∃ p1 p2,V'=[some (.ref b),p1,p2])∧∀ i y,i<m→B.pacts[i]? = some y→Zic B y=false) ⟨rfl,⟨_,_,rfl⟩,fun i y h=>absurd h (not_lt_zero i)⟩ ?_;rintro I hI m V' H' ⟨rfl,⟨p1,p2,rfl⟩,hm⟩;refine ⟨rfl,fun hlen=>?_,fun y hy=>?_⟩
 ·rw [length_map,e2] at hlen;have:Zcd B=none:=Zjz fun i y hy=>hm i y (by rw [hlen];exact (gsi hy).1) hy;rw [this] at q;exact nx _ _ q
 rw [getElem?_map,map_eq_some_iff] at hy;obtain ⟨a,ha,rfl⟩:=hy;obtain ⟨x,hx⟩:∃ x,B.pacts[m]? = some x:=⟨B.pacts[m]'(by rw [← e2];exact (gsi ha).1),getElem?_eq_getElem _⟩
 have ip:=ib1.pact hx ha;refine ⟨show 1<3 by decide,?_⟩;refine w_st fun K2 nx2=>?_;show wpS _ _ _ _ _ [some (.ref b),some (.ref a),p2] _;dsimp only [Zay,Zao];refine Zfm hA ip rfl ?_
 (dsimp only [Zai,Zcg,Zaj];rw [Zf4])
 have next:Zic B x=false→I (m+1) [some (.ref b),some (.ref a),p2] H':=fun h=>hI _ _ _ ⟨rfl,⟨_,_,rfl⟩,fun i y hi hy=>by
  rcases Nat.lt_succ_iff_lt_or_eq.mp hi with h' | h'
  ·exact hm i y h' hy
  ·subst h';rw [hx] at hy;obtain rfl:=osi hy;exact h⟩
 cases hs:x.state==Sta.opn with
 | false=>exact nx2 _ _ (next (by unfold Zic;rw [hs];rfl))
 | true =>
 refine w_st fun K3 nx3=>?_;refine ⟨rfl,?_⟩;refine Zm8 hA ip rfl fun zn _ hzn=>?_;refine Zdb (xs:=txs x.needs) (by simp only [Zal,hzn]) (fun i V' H2=>H2=H'∧(∃ p2,V'=[some (.ref b),some (.ref a),p2])∧∀ i' k,i'<i→x.needs[i']? = some k→Zbo B k=false) ⟨rfl,⟨_,rfl⟩,fun i y h=>absurd h (not_lt_zero i)⟩ ?_;rintro J hJ i V' H2 ⟨rfl,⟨p3,rfl⟩,hi⟩;refine ⟨rfl,fun hlen=>?_,fun y hy=>?_⟩
 ·rw [Zaf] at hlen;refine nx3 _ _ (nx2 _ _ ?_);refine hI _ _ _ ⟨rfl,⟨_,_,rfl⟩,fun i' y hi' hy=>?_⟩;rcases Nat.lt_succ_iff_lt_or_eq.mp hi' with h' | h'
  ·exact hm i' y h' hy
  ·subst h';rw [hx] at hy;obtain rfl:=osi hy;unfold Zic;rw [hs,Bool.true_and,List.any_eq_false];intro k hk;obtain ⟨i2,h2,h3⟩:=mem_iff_getElem.mp hk;rw [hi i2 k (by rw [hlen];exact h2) (by rw [getElem?_eq_getElem h2,h3])];decide
 obtain ⟨k,rfl,hk⟩:=Zjf hy;refine ⟨show 2<3 by decide,?_⟩;refine w_st fun K4 nx4=>?_;show wpS _ _ _ _ _ [some (.ref b),some (.ref a),some (.str k)] _;have nextJ:Zbo B k=false→J (i+1) [some (.ref b),some (.ref a),some (.str k)] H2:=fun h=>hJ _ _ _ ⟨rfl,⟨_,rfl⟩,fun i' k' hi' hk'=>by
  rcases Nat.lt_succ_iff_lt_or_eq.mp hi' with h' | h'
  ·exact hi i' k' h' hk'
  ·subst h';rw [hk] at hk';obtain rfl:=osi hk';exact h⟩
 dsimp only [Zay,x_ao,Zat,Zao,Zad];refine Zc0 hA ib1 rfl ?_;dsimp only [c_in];refine Zg7 ib1 ?_;cases e:pAt B.pacts k with
 | none=>exact nx4 _ _ (nextJ (by unfold Zbo;rw [e]))
 | some w =>
 dsimp only [Za1,Zao];obtain ⟨a',ha',ip'⟩:=Zcy ib1.ps (Zbi (j:=w.1) (q:=w.2) e).1;rw [zero_add] at ip';refine Zkl hA ip' (fun Q' h=>?_) ?_
 ·dsimp only [Zav];refine Zc0 hA ib1 rfl ?_;exact Zfh ib1 (j:=w.1) (x:=w.2) e fun a'' h'' _=>by rw [ha'] at h'';obtain rfl:=osi h'';exact h
 dsimp only [Zai]
 (dsimp only [Zcg,Zaj];rw [Zpk])
 have hfb:Zbo B k=(w.2.state==.fln):=by unfold Zbo;rw [e]
 cases hw:w.2.state==Sta.fln with
 | false=>exact nx4 _ _ (nextJ (hfb.trans hw))
 | true =>
  have hd:Zic B x=true:=by
   unfold Zic;rw [hs,Bool.true_and,any_eq_true];exact ⟨k,mem_of_getElem? hk,hfb.trans hw⟩
  have:Zcd B=some (m,x):=Zml hm hx hd;rw [this] at q;exact q a ha
end
end Mine
end
section
namespace Mine
theorem Zc5 {n:Nat} {B:Bk} {l:List Str} (h:Zcd B=none):Za9 n B l=(B,l):=by
 cases n with
 | zero=>rfl
 | succ n=>unfold Za9;exact rl h rfl
theorem Zc4 {n:Nat} {B:Bk} {l:List Str} {e:Nat×Pc} (h:Zcd B=some e):Za9 (n+1) B l=Za9 n (Zdf B e.1 e.2) (l++[e.2.name]):=by
 conv=>lhs;unfold Za9
 exact rl h rfl
theorem fell_len {B:Bk} {j:Nat} {x:Pc}:(Zdf B j x).pacts.length=B.pacts.length:=length_set
theorem Zjs {B:Bk}:Zqb B≤B.pacts.length:=List.countP_le_length
section
variable {c:Cx} {P:Pg} (G:Gd c P) (U:HasP P) {n:Nat} {md:Bool} {Q:AV→Zaa→Prop} {E:String→Zaa→Prop} {H:Zaa} {o:Addr→Option Role} {b f s p a:Addr} {as:List Addr} {B:Bk} {j:Nat} {x:Pc}
inductive Z0c (o:Addr→Option Role) (H:Zaa) (b f s p:Addr) (as:List Addr) (R:Bk×List Str) (l0:Nat) (v1:Option AV) (z:Addr) (m:Nat) (V':VV) (H':Zaa):Prop
 | mk (o':Addr→Option Role) (B':Bk) (l:List Str) (v:AV) (hV:V'=[some (.ref b),v1,some (.ref z),some v]) (ib:IsBook o' H' b f s p as B') (ok:BkOK B') (fr:Fr1 o H o' H') (hz:H' z=some (.list (txs l))) (ho:o' z=none) (hl:l.length+m≤l0) (hm:Zqb B'≤m) (hR:Za9 m B' l=R)
   (hv:match Zcd B' with | some e=>∃ a,as[e.1]? = some a∧v = .ref a | none=>v = .none):Z0c o H b f s p as R l0 v1 z m V' H'
include G U
set_option tactic.hygienic true in
theorem Zi7 {nl:Addr} {l:List Str} (hU:P.fns.lookup "Book.dragged" = some BK.f_Book_dragged) (hU1:P.fns.lookup "Book.first_dragged" = some BK.f_Book_first_dragged) (hU2:P.fns.lookup "Book.fell" = some BK.f_Book_fell) (hU3:P.fns.lookup "Book.given_back" = some BK.f_Book_given_back)
  (ib:IsBook o H b f s p as B) (ok:BkOK B) (hn:H nl=some (.list (txs l))) (hno:o nl=none) (hl:l.length≤200)
  (q:∀ z o' H',H z=none→o' z=none→H' z=some (.list (txs (Za9 B.pacts.length B l).2))→IsBook o' H' b f s p as (Za9 B.pacts.length B l).1→Fr1 o H o' H'→Q (.ref z) H'):CallOK c (n+3) true "Book.dragged" [.ref b,.ref nl] Q E H:=by
 refine G.call (F:=BK.f_Book_dragged) hU rfl ?_;have hM:c.P.meths=BK.meths:=by exact rl G.hP (rl U.a.meths rfl)
 show wpSs _ _ _ _ _ [some (.ref b),some (.ref nl),none,none] _;refine w_st fun K nx=>?_;dsimp [v_0,Zai,Zad,Zar,Zbl,Za6,x_ao,Zbm,Zao,Za0,Zav,Zap,Zaz,Zan,Zak,x_bm,Zbh,Zau,Zbc,Zas,Zag,Zae,Za1,Zat,Zbn,Zbk,Zbt,Zbg,tv,wtg,Zcv,Zdh,Zdt,Zbv,Zbx,Zd5,Zcj,c_lt,c_le,c_gt,c_ge,c_eq,c_ne,Zcg,Zds,c_in,Zc7,Zaj,Zd8,Zcp,Zaw,Zby,Zay,Zbq,Zam,Zax,Za3];refine Zf9 hn (by exact le_trans (by assumption) (by decide)) fun z hz=>⟨by decide,nx _ _ ?_⟩
 have t71:=ib.fresh hz (.list (txs l));have ib1:=t71.1;have f1:=t71.2;have hz1:up H z (.list (txs l)) z=some (.list (txs l)):=Zac;have hzo:(fun a=>if a=z then none else o a) z=(none:Option Role):=if_pos rfl;generalize (fun a=>if a=z then none else o a)=o1 at ib1 f1 hzo;generalize up H z (.list (txs l))=H1 at ib1 f1 hz1;refine w_st fun K nx=>?_;dsimp only [Zam];refine Zbw hM (by decide) (by decide) ib1 rfl ?_;refine Zeh G U hU1 ib1 ok fun o2 H2 ib2 f2=>?_;have t72:=f2.old _ _ hz1 hzo;have hz2:=t72.1;have hzo2:=t72.2;have key:∀ v,(match Zcd B with | some e=>∃ a,as[e.1]? = some a∧v = .ref a | none=>v = .none)→3<4∧K [some (.ref b),some (.ref nl),some (.ref z),some v] H2:=fun v hv=>by
  refine ⟨by decide,nx _ _ ?_⟩;refine w_st fun K nx=>?_;dsimp only [Zb0];refine ⟨rfl,Z0c o H b f s p as (Za9 B.pacts.length B l) (l.length+B.pacts.length) (some (.ref nl)) z,⟨_,o2,B,l,v,rfl,ib2,ok,f1.trans f2,hz2,hzo2,le_refl _,Zjs,rfl,hv⟩,?_⟩;rintro m V' H' ⟨o',B',l',v',rfl,ib',ok',fr',hz',ho',hl',hm',hR',hv'⟩;dsimp only [Zai];cases e:Zcd B' with
  | none =>
   rw [e] at hv';subst hv';rw [Zc5 e] at hR';refine nx _ _ ?_;have q:=q z o' H' hz ho';rw [← hR'] at q;exact q hz' ib' fr'
  | some w =>
   rw [e] at hv';obtain ⟨a,ha,rfl⟩:=hv';have t74:=Zh9 (m:=w.1) (x:=w.2) e;have hj:=t74.1;have hd:=t74.2;have hopn:(w.2.state==Sta.opn)=true:=(Bool.and_eq_true _ _▸(show (w.2.state==Sta.opn&&w.2.needs.any (Zbo B'))=true from hd)).1;have hop:=Zgb hj hopn;obtain ⟨m,rfl⟩:∃ m',m=m'+1:=⟨m - 1,by lia⟩
   rw [Zc4 e] at hR';refine w_st fun K2 nx2=>?_;refine ⟨?_,?_⟩
   ·show match H' z with | some (.list _)=>_ | some (.dict _ _)=>_ | _=>False
    refine rl hz' ?_;exact .inl rfl
   dsimp only [Zae];refine Zbw hM (by decide) (by decide) ib' rfl ?_;refine Zmj G U hU2 hU3 ib' ok' hj ha fun o3 H3 ib3 f3=>?_;have t75:=f3.old _ _ hz' ho';have hz3:=t75.1;have hzo3:=t75.2;dsimp only [Zag];refine Zde hz3 (by refine rl Zaf ?_;have:=ok.len;lia) (nx2 _ _ ?_);refine rl Zd7 ?_;have ib4:=ib3.upN hzo3 (.list (txs (l'++[w.2.name])));have fr4:Fr1 o H o3 (up H3 z (.list (txs (l'++[w.2.name])))):=⟨fun y v hy hyo=>by
    have:=(fr'.trans f3).old y v hy hyo;exact ⟨by refine rl (Zab (fun e=>by rw [e,hz] at hy;contradiction)) ?_;exact this.1,this.2⟩,fun y h=>(fr'.trans f3).gr y (Zdm h)⟩
   refine w_st fun K3 nx3=>?_;dsimp only [Zam];refine Zbw hM (by decide) (by decide) ib4 rfl ?_;have ok4:=ok'.fell hj;refine Zeh G U hU1 ib4 ok4 fun o5 H5 ib5 f5=>?_;have t76:=f5.old z _ Zac hzo3;have hz5:=t76.1;have hzo5:=t76.2;have fin:∀ v,(match Zcd (Zdf B' w.1 w.2) with | some e=>∃ a,as[e.1]? = some a∧v = .ref a | none=>v = .none)→3<4∧K3 [some (.ref b),some (.ref nl),some (.ref z),some v] H5:=fun v hv=>⟨by decide,nx3 _ _ ⟨m,lt_succ_self m,o5,Zdf B' w.1 w.2,l'++[w.2.name],v,rfl,ib5,ok4,fr4.trans f5,hz5,hzo5,by refine rl length_append ?_;simp only [length_cons,length_nil];lia,by lia,hR',hv⟩⟩
   cases e5:Zcd (Zdf B' w.1 w.2) with
   | none=>exact fin _ (by exact rl e5 rfl)
   | some w5=>exact fun a5 ha5=>fin _ (by refine rl e5 ?_;exact ⟨a5,ha5,rfl⟩)
 cases e:Zcd B with
 | none=>exact key _ (by exact rl e rfl)
 | some w=>exact fun a ha=>key _ (by refine rl e ?_;exact ⟨a,ha,rfl⟩)
noncomputable def offQ (B:Bk) (w:AV):Except String (Bk×List Str):=match Zcm B w with
 | none=>.error "NoPact"
 | some e=>if e.2.state = .opn then .ok (Za9 B.pacts.length (Zdf B e.1 e.2) [e.2.name]) else .error "NotOpen"
theorem Zwk {w:AV} (hU0:P.fns.lookup "Book.call_off" = some BK.f_Book_call_off) (hU:P.fns.lookup "Book.dragged" = some BK.f_Book_dragged) (hU1:P.fns.lookup "Book.first_dragged" = some BK.f_Book_first_dragged) (hU2:P.fns.lookup "Book.fell" = some BK.f_Book_fell) (hU3:P.fns.lookup "Book.given_back" = some BK.f_Book_given_back)
  (ib:IsBook o H b f s p as B) (ok:BkOK B) (hw:Kn H w)
  (q:match offQ B w with | .ok r=>∀ z o' H',H z=none→o' z=none→H' z=some (.list (txs r.2))→IsBook o' H' b f s p as r.1→Fr1 o H o' H'→Q (.ref z) H' | .error cl=>E cl H):CallOK c (n+4) true "Book.call_off" [.ref b,w] Q E H:=by
 refine G.call (F:=BK.f_Book_call_off) hU0 rfl ?_;have hM:c.P.meths=BK.meths:=by exact rl G.hP (rl U.a.meths rfl)
 refine w_st fun K nx=>?_;dsimp only [Zbq];refine Zbw hM (by decide) (by decide) ib rfl ?_;dsimp only [Zae,Zau];refine Zbw hM (by decide) (by decide) ib rfl ?_;dsimp only [Zae];refine Zbw hM (by decide) (by decide) ib rfl ?_;refine Zgq G U ib hw ?_;unfold offQ at q;cases e:Zcm B w with
 | none=>rw [e] at q;exact q
 | some x =>
  rw [e] at q;have hj:=Zd1 (j:=x.1) (x:=x.2) e;show if x.2.state = .opn then _ else _
  by_cases ho:x.2.state = .opn
  ·refine Eq.mpr (if_pos ho) ?_;dsimp only at q;rw [if_pos ho] at q;intro a ha ip;refine Eq.mpr (Zag) ?_;refine Zmj G U hU2 hU3 ib ok hj ha fun o1 H1 ib1 f1=>?_;refine rl Zag ?_;intro z hz;have t77:=ib1.fresh hz (.list (txs [x.2.name]));have ib2:=t77.1;have f2:=t77.2;refine Zi7 G U (l:=[x.2.name]) hU hU1 hU2 hU3 ib2 (ok.fell hj) Zac (if_pos rfl) (by simp) fun z' o' H' h1 h2 h3 h4 h5=>?_;rw [fell_len] at h3 h4;exact q z' o' H' ((f1.trans f2).gr z' h1) h2 h3 h4 ((f1.trans f2).trans h5)
  ·refine Eq.mpr (if_neg ho) ?_;dsimp only at q;rw [if_neg ho] at q;exact q
end
end Mine
end
section
namespace Mine
structure Kv (v:AV):Prop where
 nr:∀ a,v≠.ref a
 len:∀ s,v = .str s→s.length<2 ^ 62
theorem Kv.kn {v:AV} (h:Kv v) {H:Zaa}:Kn H v:=by
 refine ⟨?_,h.len⟩;cases v with
 | ref a=>exact absurd rfl (h.nr a)
 | _=>exact ⟨_,rfl⟩
noncomputable def Zfl (B:Bk):List (AV×AV)→List (Str×Int)→Except String (List (Str×Int))
 | [],acc=>.ok acc
 | e::r,acc=>if Zbz B e.1 then (if Za2 e.1∈acc.map (·.1) then .error "Twice" else if Zc9 e.2 then Zfl B r (acc++[(Za2 e.1,Zh6 e.2)]) else .error "NoAmount") else .error "NoPurse"
noncomputable def Zem (B:Bk) (l:List (AV×AV)):Except String (List (Str×Int)):=if 1≤l.length∧l.length≤8 then Zfl B l [] else .error "NoRow"
def pairsG (o:Addr→Option Role) (H:Zaa):List Addr→List (AV×AV)→Prop
 | [],[]=>True
 | t::ts,e::l=>(o t=none∧H t=some (.tuple [e.1,e.2])∧Kv e.1∧Kv e.2)∧pairsG o H ts l
 | _,_=>False
def pairsU (H0:Zaa) (o:Addr→Option Role) (H:Zaa):List Addr→List (Str×Int)→Prop
 | [],[]=>True
 | t::ts,e::l=>(H0 t=none∧o t=none∧H t=some (.tuple [.str e.1,.int e.2]))∧pairsU H0 o H ts l
 | _,_=>False
section
variable {o o':Addr→Option Role} {H H' H0:Zaa}
theorem Ziu:∀ {ts:List Addr} {l:List (AV×AV)} {m:Nat} {t:Addr},pairsG o H ts l→ts[m]? = some t→∃ e,l[m]? = some e∧o t=none∧H t=some (.tuple [e.1,e.2])∧Kv e.1∧Kv e.2
 | _::_,e::_,0,_,h,z=>by obtain rfl:=osi z;exact ⟨e,rfl,h.1⟩
 | _::ts,_::l,m+1,_,h,z=>Ziu (m:=m) h.2 z
 | [],[],_,_,_,z=>by cases z
 | [],_::_,_,_,h,_=>h.elim
 | _::_,[],_,_,h,_=>h.elim
theorem Zit:∀ {ts:List Addr} {l:List (AV×AV)},pairsG o H ts l→ts.length=l.length
 | [],[],_=>rfl
 | _::_,_::_,h=>congrArg Nat.succ (Zit h.2)
 | [],_::_,h=>h.elim
 | _::_,[],h=>h.elim
theorem pairsU.keep (k:∀ t v,H0 t=none→o t=none→H t=some (.tuple v)→o' t=none∧H' t=some (.tuple v)):∀ {ts:List Addr} {l:List (Str×Int)},pairsU H0 o H ts l→pairsU H0 o' H' ts l
 | [],[],_=>trivial
 | t::_,_::_,h=>⟨⟨h.1.1,k t _ h.1.1 h.1.2.1 h.1.2.2⟩,pairsU.keep k h.2⟩
 | [],_::_,h=>h.elim
 | _::_,[],h=>h.elim
theorem pairsU.snoc {t:Addr} {e:Str×Int} (h0:H0 t=none∧o t=none∧H t=some (.tuple [.str e.1,.int e.2])):∀ {ts:List Addr} {l:List (Str×Int)},pairsU H0 o H ts l→pairsU H0 o H (ts++[t]) (l++[e])
 | [],[],_=>⟨h0,trivial⟩
 | _::_,_::_,h=>⟨h.1,pairsU.snoc h0 h.2⟩
 | [],_::_,h=>h.elim
 | _::_,[],h=>h.elim
theorem Zf7:∀ {ts:List Addr} {l:List (Str×Int)},pairsU H0 o H ts l→ts.length=l.length
 | [],[],_=>rfl
 | _::_,_::_,h=>congrArg Nat.succ (Zf7 h.2)
 | [],_::_,h=>h.elim
 | _::_,[],h=>h.elim
theorem Fr1.upF {z:Addr} {y:AObj} (fr:Fr1 o H o' H') (hz:H z=none):Fr1 o H o' (up H' z y) :=
 ⟨fun a v h k=>⟨by refine rl (Zab (fun e=>by rw [e,hz] at h;contradiction)) ?_;exact (fr.old a v h k).1,(fr.old a v h k).2⟩,fun a h=>fr.gr a (Zdm h)⟩
end
inductive Zz9 (B:Bk) (o:Addr→Option Role) (H:Zaa) (b f s p:Addr) (as:List Addr) (l:List (AV×AV)) (R:Except String (List (Str×Int))) (v1:Option AV) (z sd:Addr) (m:Nat) (V':VV) (H':Zaa):Prop
 | mk (o':Addr→Option Role) (acc:List (Str×Int)) (ts:List Addr) (ep:Nat) (pr:Option AV) (hV:V'=[some (.ref b),v1,some (.ref z),some (.ref sd),pr]) (ib:IsBook o' H' b f s p as B) (fr:Fr1 o H o' H') (hz:H' z=some (.list (ts.map .ref))) (hzo:o' z=none) (hs:H' sd=some (.dict ep ((acc.map (·.1)).map fun k=>(k,.bool true)))) (hso:o' sd=none)
   (pu:pairsU H o' H' ts acc) (hl:acc.length=m) (hR:Zfl B (l.drop m) acc=R):Zz9 B o H b f s p as l R v1 z sd m V' H'
section
variable {c:Cx} {P:Pg} (G:Gd c P) (U:HasP P) {n:Nat} {md:Bool} {Q:AV→Zaa→Prop} {E:String→Zaa→Prop} {H:Zaa} {o:Addr→Option Role} {b f s p a:Addr} {as:List Addr} {B:Bk} {j:Nat} {x:Pc}
theorem tup0 {H:Zaa} {Q:AV→Zaa→Prop} {t:Addr} {v w:AV} (h:H t=some (.tuple [v,w])) (q:Q v H):wsub (.ref t) (.int 0) Q H:=Ze5 h (by decide) rfl (by simp) q
theorem tup1 {H:Zaa} {Q:AV→Zaa→Prop} {t:Addr} {v w:AV} (h:H t=some (.tuple [v,w])) (q:Q w H):wsub (.ref t) (.int 1) Q H:=Ze5 h (by decide) rfl (by simp) q
include G U
set_option tactic.hygienic true in
theorem Zhr {pl:Addr} {ts:List Addr} {l:List (AV×AV)} (hU:P.fns.lookup "Book.pairs_of" = some BK.f_Book_pairs_of) (ib:IsBook o H b f s p as B) (hp:H pl=some (.list (ts.map .ref))) (hpo:o pl=none) (hg:pairsG o H ts l) (hll:l.length≤1000)
  (q:match Zem B l with | .ok r=>(∀ z ts o' H',H z=none→o' z=none→H' z=some (.list (ts.map .ref))→pairsU H o' H' ts r→IsBook o' H' b f s p as B→Fr1 o H o' H'→Q (.ref z) H') | .error cl=>∀ o' H',IsBook o' H' b f s p as B→Fr1 o H o' H'→E cl H'):CallOK c (n+3) true "Book.pairs_of" [.ref b,.ref pl] Q E H:=by
 refine G.call (F:=BK.f_Book_pairs_of) hU rfl ?_;have hM:c.P.meths=BK.meths:=by exact rl G.hP (rl U.a.meths rfl)
 have hgl:c.P.consts.lookup "MOST" = some (.int 8):=by refine rl G.hP (rl U.a.consts ?_);rfl
 have hlen:=Zit hg;show wpSs _ _ _ _ _ [some (.ref b),some (.ref pl),none,none,none] _;unfold Zem at q;refine w_st fun K nx=>?_;dsimp only [Zay,Za6,Za0,Zai,Zak,Zae,Zad];show wpXs _ [] _ _ _ _
 (dsimp only [Zag,Ze2];refine rl hp ?_)
 refine ⟨by refine rl (length_map ..) ?_;lia,?_⟩
 (refine rl (length_map ..) (rl (hlen ..) ?_);dsimp only [c_le,Zaj])
 by_cases h1:1≤l.length
 case neg =>
  rw [if_neg (fun h=>h1 h.1)] at q;refine rl (decide_eq_false (by lia)) ?_;exact ⟨rfl,q o H ib .refl⟩
 (refine rl (decide_eq_true (by exact ofNat_lt.mpr (by assumption))) ?_;refine Eq.mpr (if_pos rfl) ?_;dsimp only [Zaz])
 refine rl hgl ?_;dsimp only [c_le];by_cases h2:l.length≤8
 case neg =>
  rw [if_neg (fun h=>h2 h.2)] at q;refine rl (decide_eq_false (by lia)) ?_;exact ⟨rfl,q o H ib .refl⟩
 refine rl (decide_eq_true (by exact Int.ofNat_le.mpr (by assumption))) ?_;rw [if_pos ⟨h1,h2⟩] at q;refine nx _ _ ?_;refine w_st fun K nx=>?_;intro z hz;refine ⟨show 2<5 by decide,nx _ _ ?_⟩;obtain ⟨ib1,f1⟩:=ib.fresh hz (.list []);refine w_st fun K nx=>?_;intro sd hsd;refine ⟨show 3<5 by decide,nx _ _ ?_⟩;obtain ⟨ib2,f2⟩:=ib1.fresh hsd (.dict 0 []);have hzs:z≠sd:=Zgw hsd;have hsd0:H sd=none:=Zdm hsd;refine w_st fun K nx=>?_;dsimp only [Zb3,Zad];refine ⟨rfl,?_⟩;show WFor _ _ (.ref pl) _ _;have fr2:=f1.trans f2;obtain ⟨hp2,hpo2⟩:=fr2.old _ _ hp hpo;refine Zdb (xs:=ts.map .ref) (by simp only [Zal,hp2]) (Zz9 B o H b f s p as l (Zfl B l []) (some (.ref pl)) z sd) ⟨_,[],[],0,none,rfl,ib2,fr2,by rw [Zab hzs,Zac];rfl,by rw [if_neg hzs,if_pos rfl],Zac,if_pos rfl,trivial,rfl,rfl⟩ ?_;rintro I hI m V' H' ⟨o',acc,us,ep,pr,rfl,ib',fr',hz',hzo',hs',hso',pu,hlm,hR⟩;refine ⟨by show H' pl=_;exact rl ((fr'.old _ _ hp hpo).1) (rl hp2 rfl),fun hm=>?_,fun y hy=>?_⟩
 ·rw [length_map,hlen] at hm;rw [hm,drop_length] at hR;rw [← hR] at q;exact nx _ _ (q z us o' H' hz hzo' hz' pu ib' fr')
 rw [getElem?_map,map_eq_some_iff] at hy;obtain ⟨t,ht,rfl⟩:=hy;obtain ⟨e,he,hto,htt,kv1,kv2⟩:=Ziu hg ht;obtain ⟨htt',_⟩:=fr'.old _ _ htt hto;have hdrop:l.drop m=e::l.drop (m+1):=by
  obtain ⟨hlt,hee⟩:=gsi he;refine rl hee.symm ?_;exact List.drop_eq_getElem_cons hlt
 rw [hdrop,Zfl] at hR;refine ⟨show 4<5 by decide,?_⟩;refine w_st fun K2 nx2=>?_;show wpS _ _ _ _ _ [some (.ref b),some (.ref pl),some (.ref z),some (.ref sd),some (.ref t)] _;dsimp only [Zax];refine Zbw hM (by decide) (by decide) ib' rfl ?_;refine tup0 htt' ?_;refine Zcq G U.a ib' kv1.kn ?_;cases hpb:Zbz B e.1 with
 | false =>
  rw [hpb] at hR;rw [← hR] at q;exact q o' H' ib' fr'
 | true =>
 obtain ⟨k,hk⟩:∃ k,e.1 = .str k:=⟨_,(Zbr hpb).1⟩
 rw [hpb,if_pos rfl] at hR;rw [hk] at htt' hR;have hkk:Za2 (.str k)=k:=rfl;rw [hkk] at hR;refine nx2 _ _ ?_;refine w_st fun K2 nx2=>?_;refine tup0 htt' ?_;dsimp only [Zad];show wcmp .In (.str k) (.ref sd) _ _
 (dsimp only [c_in,Zgt];refine rl hs' ?_)
 show Zbb (.bool (Zb8 ((acc.map (·.1)).map fun k=>(k,.bool true)) k).isSome) _ _
 (refine rl Zg4 ?_;dsimp only [Zaj])
 by_cases hin:k∈acc.map (·.1)
 ·rw [if_pos hin] at hR;rw [← hR] at q;refine rl (decide_eq_true hin) ?_;exact ⟨rfl,q o' H' ib' fr'⟩
 rw [if_neg hin] at hR;refine rl (decide_eq_false hin) ?_;refine nx2 _ _ ?_;refine w_st fun K2 nx2=>?_;refine tup0 htt' ?_;show match H' sd with | some (.dict _ _)=>_ | _=>False
 refine rl hs' ?_;refine ⟨by refine rl (length_map ..) (rl (length_map ..) (rl (hlm ..) ?_));have:m<l.length:=(gsi he).1;exact le_trans (le_of_lt (Nat.lt_of_lt_of_le this hll)) (by decide),fun ep'=>nx2 _ _ ?_⟩;refine rl (Zlx hin) ?_;have ib3:=ib'.upN hso' (.dict ep' ((acc.map (·.1)++[k]).map fun k=>(k,.bool true)));have fr3:Fr1 o H o' (up H' sd (.dict ep' ((acc.map (·.1)++[k]).map fun k=>(k,.bool true)))):=fr'.upF hsd0;have hz3:up H' sd (.dict ep' ((acc.map (·.1)++[k]).map fun k=>(k,.bool true))) z=some (.list (us.map .ref)):=by refine rl (Zab hzs) ?_;exact hz'
 have hs3:up H' sd (.dict ep' ((acc.map (·.1)++[k]).map fun k=>(k,.bool true))) sd=some (.dict ep' ((acc.map (·.1)++[k]).map fun k=>(k,.bool true))):=Zac;have pu3:pairsU H o' (up H' sd (.dict ep' ((acc.map (·.1)++[k]).map fun k=>(k,.bool true)))) us acc:=pu.keep fun t v _ h1 h2=>⟨h1,by refine rl (Zab (fun e=>by rw [e,hs'] at h2;cases h2)) ?_;exact h2⟩
 generalize up H' sd (.dict ep' ((acc.map (·.1)++[k]).map fun k=>(k,.bool true)))=H3 at ib3 fr3 hz3 hs3 pu3;obtain ⟨htt3,_⟩:=fr3.old _ _ htt hto;rw [hk] at htt3;refine w_st fun K2 nx2=>?_;dsimp only [Zax,x_bm,Zad];refine ⟨?_,?_⟩
 ·show match H3 z with | some (.list _)=>_ | some (.dict _ _)=>_ | _=>False
  refine rl hz3 ?_;exact .inl rfl
 dsimp only [Zae,Zbc,Zav];refine tup0 htt3 ?_;dsimp only [Zae,Zan,Zav];refine tup1 htt3 ?_;refine Eq.mpr (Zag) ?_;refine Zll G U.a kv2.kn ?_;cases hab:Zc9 e.2 with
 | false =>
  rw [hab] at hR;rw [← hR] at q;exact q o' H3 ib3 fr3
 | true =>
 obtain ⟨i,hi⟩:∃ i,e.2 = .int i:=⟨_,Zja hab⟩
 rw [hab,if_pos rfl] at hR;rw [hi] at hR ⊢;refine rl (if_pos rfl) (rl Zag ?_);intro t4 ht4;obtain ⟨ib4,f4⟩:=ib3.fresh ht4 (.tuple [.str k,.int i]);have fr4:=fr3.trans f4;obtain ⟨hz4,hzo4⟩:=f4.old _ _ hz3 hzo';obtain ⟨hs4,hso4⟩:=f4.old _ _ hs3 hso';have pu4:=pu3.keep (H0:=H) (H':=up H3 t4 (.tuple [.str k,.int i])) (o':=fun a=>if a=t4 then none else o' a) fun t v _ h1 h2=>⟨(f4.old _ _ h2 h1).2,(f4.old _ _ h2 h1).1⟩
 have pu5:=pu4.snoc (t:=t4) (e:=(k,i)) ⟨fr3.gr t4 ht4,if_pos rfl,Zac⟩;dsimp only [Zag];refine Zde hz4 (by refine rl (length_map ..) (rl (Zf7 pu ..) (rl (hlm ..) ?_));have:m<l.length:=(gsi he).1;lia) (nx2 _ _ ?_);refine hI _ _ _ ⟨_,acc++[(k,i)],us++[t4],ep',some (.ref t),rfl,ib4.upN hzo4 _,fr4.upF hz,by refine rl Zac (rl map_append ?_);rfl,hzo4,by refine rl (Zab hzs.symm) (rl hs4 (rl (map_append (f:=fun x:Str×Int=>x.1)) ?_));rfl,hso4,pu5.keep fun t v _ h1 h2=>⟨h1,by refine rl (Zab (fun e=>by rw [e,hz4] at h2;cases h2)) ?_;exact h2⟩,by refine rl length_append (rl hlm ?_);rfl,hR⟩
end
end Mine
end
section
namespace Mine
noncomputable def Zgp (B:Bk):List AV→List Str→Except String Unit
 | [],_=>.ok ()
 | v::r,seen=>if Zd2 v then (if Za2 v∈seen then .error "Twice" else if Zbo B (Za2 v) then .error "Fallen" else Zgp B r (seen++[Za2 v])) else .error "NoName"
noncomputable def Zfq (B:Bk) (k:Str) (l:List AV):Except String Unit:=if l.length≤8 then Zgp B l [k] else .error "NoRow"
theorem Zcw {α:Type} {p:Prop} [Decidable p] {x:Except String α} {e:String} {r:α} (h:(if p then x else .error e) = .ok r):p∧x = .ok r:=by
 by_cases hp:p
 ·rw [if_pos hp] at h;exact ⟨hp,h⟩
 ·rw [if_neg hp] at h;contradiction
theorem Zf0 {α:Type} {p:Prop} [Decidable p] {x:Except String α} {e:String} {r:α} (h:(if p then .error e else x) = .ok r):¬ p∧x = .ok r:=by
 by_cases hp:p
 ·rw [if_pos hp] at h;contradiction
 ·rw [if_neg hp] at h;exact ⟨hp,h⟩
theorem Zok {B:Bk} {l:List AV} {seen:List Str} (h:Zgp B l seen = .ok ()):l=txs (l.map Za2):=by
 induction l generalizing seen with
 | nil=>rfl
 | cons v r ih =>
  obtain ⟨hn,h⟩:=Zcw h;have:=ih (Zf0 (Zf0 h).2).2;rw [map_cons];show v::r = .str (Za2 v)::txs (r.map Za2);exact rl (Eq.symm (Zeb hn)) (rl this.symm rfl)
inductive Z0a (B:Bk) (o:Addr→Option Role) (H:Zaa) (b f s p:Addr) (as:List Addr) (l:List AV) (R:Except String Unit) (v1 v2:Option AV) (sd:Addr) (m:Nat) (V':VV) (H':Zaa):Prop
 | mk (o':Addr→Option Role) (seen:List Str) (ep:Nat) (pr:Option AV) (hV:V'=[some (.ref b),v1,v2,some (.ref sd),pr]) (ib:IsBook o' H' b f s p as B) (fr:Fr1 o H o' H') (hs:H' sd=some (.dict ep (seen.map fun k=>(k,.bool true)))) (hso:o' sd=none) (hl:seen.length=m+1) (hR:Zgp B (l.drop m) seen=R):Z0a B o H b f s p as l R v1 v2 sd m V' H'
section
variable {c:Cx} {P:Pg} (G:Gd c P) (U:HasP P) {n:Nat} {md:Bool} {Q:AV→Zaa→Prop} {E:String→Zaa→Prop} {H:Zaa} {o:Addr→Option Role} {b f s p a:Addr} {as:List Addr} {B:Bk} {j:Nat} {x:Pc}
include G U
set_option tactic.hygienic true in
theorem Zl8 {nl:Addr} {l:List AV} {kn:Str} (hU:P.fns.lookup "Book.needs_of" = some BK.f_Book_needs_of) (ib:IsBook o H b f s p as B) (hp:H nl=some (.list l)) (hpo:o nl=none) (hg:∀ v∈l,Kv v) (hll:l.length≤1000)
  (q:match Zfq B kn l with | .ok _=>(∀ z o' H',H z=none→o' z=none→H' z=some (.list l)→IsBook o' H' b f s p as B→Fr1 o H o' H'→Q (.ref z) H') | .error cl=>∀ o' H',IsBook o' H' b f s p as B→Fr1 o H o' H'→E cl H'):CallOK c (n+3) true "Book.needs_of" [.ref b,.str kn,.ref nl] Q E H:=by
 refine G.call (F:=BK.f_Book_needs_of) hU rfl ?_;have hA:c.P.attrs=BK.attrs:=by exact rl G.hP (rl U.a.attrs rfl)
 have hgl:c.P.consts.lookup "MOST" = some (.int 8):=by refine rl G.hP (rl U.a.consts ?_);rfl
 unfold Zfq at q;refine w_st fun K nx=>?_;dsimp only [Zay,Zao,Zak,Zae,Zad];show wpXs _ [] _ _ _ _
 (dsimp only [Zag,Ze2];refine rl hp ?_)
 refine ⟨by exact lt_of_le_of_lt (by assumption) (by decide),?_⟩;dsimp only [Zaz];show match c.P.consts.lookup "MOST" with | some v=>_ | none=>False
 refine rl hgl ?_;show wcmp .Gt (.int l.length) (.int 8) _ _;dsimp only [c_gt,Zaj];by_cases h2:l.length≤8
 case neg =>
  rw [if_neg h2] at q;refine rl (decide_eq_true (by omega)) ?_;exact ⟨rfl,q o H ib .refl⟩
 refine rl (decide_eq_false (by omega)) ?_;rw [if_pos h2] at q;refine nx _ _ ?_;refine w_st fun K nx=>?_;intro sd ep0 hsd;refine ⟨show 3<5 by decide,nx _ _ ?_⟩;obtain ⟨ib2,fr2⟩:=ib.fresh hsd (.dict ep0 [(kn,.bool true)]);refine w_st fun K nx=>?_;dsimp only [Zb3,Zad];refine ⟨rfl,?_⟩;show WFor _ _ (.ref nl) _ _;obtain ⟨hp2,hpo2⟩:=fr2.old _ _ hp hpo;refine Zdb (xs:=l) (by simp only [Zal,hp2]) (Z0a B o H b f s p as l (Zgp B l [kn]) (some (.str kn)) (some (.ref nl)) sd) ⟨_,[kn],ep0,none,rfl,ib2,fr2,Zac,if_pos rfl,rfl,rfl⟩ ?_;rintro I hI m V' H' ⟨o',seen,ep,pr,rfl,ib',fr',hs',hso',hlm,hR⟩;obtain ⟨hp',hpo'⟩:=fr'.old _ _ hp hpo;refine ⟨by show H' nl=_;exact rl hp' (rl hp2 rfl),fun hm=>?_,fun v hv=>?_⟩
 ·rw [hm,drop_length] at hR;rw [← hR] at q;refine nx _ _ ?_;refine w_st fun K nx=>?_;dsimp only [Zbq,Zak,Zae,Zad];show wpXs _ [] _ _ _ _
  (dsimp only [Zag,Zd9];refine rl hp' ?_)
  refine ⟨le_trans hll (by decide),fun z hz=>?_⟩;obtain ⟨ib3,f3⟩:=ib'.fresh hz (.list l);exact q z _ _ (fr'.gr z hz) (if_pos rfl) Zac ib3 (fr'.trans f3)
 have hdrop:l.drop m=v::l.drop (m+1):=by
  obtain ⟨hlt,hee⟩:=gsi hv;refine rl hee.symm ?_;exact List.drop_eq_getElem_cons hlt
 have hmlt:m<l.length:=(gsi hv).1;rw [hdrop,Zgp] at hR;refine ⟨show 4<5 by decide,?_⟩;refine w_st fun K2 nx2=>?_;show wpS _ _ _ _ _ [some (.ref b),some (.str kn),some (.ref nl),some (.ref sd),some v] _;refine Zma G U.a (hg v (mem_of_getElem? hv)).kn ?_;cases hn:Zd2 v with
 | false =>
  rw [hn] at hR;rw [← hR] at q;exact q o' H' ib' fr'
 | true =>
 obtain ⟨k,rfl⟩:∃ k,v = .str k:=⟨_,Zeb hn⟩
 rw [hn,if_pos rfl] at hR;have hkk:Za2 (.str k)=k:=rfl;rw [hkk] at hR;refine nx2 _ _ ?_;refine w_st fun K2 nx2=>?_;refine Eq.mpr (Zay) (Eq.mpr (Zao) (Eq.mpr (Zad) ?_));dsimp only [Zad];show wcmp .In (.str k) (.ref sd) _ _
 (dsimp only [c_in,Zgt];refine rl hs' ?_)
 show Zbb (.bool (Zb8 (seen.map fun k=>(k,.bool true)) k).isSome) _ _
 (refine rl Zg4 ?_;dsimp only [Zaj])
 by_cases hin:k∈seen
 ·rw [if_pos hin] at hR;rw [← hR] at q;refine rl (decide_eq_true hin) ?_;exact ⟨rfl,q o' H' ib' fr'⟩
 rw [if_neg hin] at hR;refine rl (decide_eq_false hin) ?_;refine nx2 _ _ ?_;refine w_st fun K2 nx2=>?_;refine Eq.mpr (Zam) (Eq.mpr (Zai) (Eq.mpr (tsub) (Eq.mpr (Zad) ?_)));show match H' sd with | some (.dict _ _)=>_ | _=>False
 refine rl hs' ?_;refine ⟨by refine rl (length_map ..) (rl (hlm ..) ?_);exact le_trans (le_trans (Nat.succ_le_of_lt hmlt) hll) (by decide),fun ep'=>nx2 _ _ ?_⟩;refine rl (Zlx hin) ?_;have ib3:=ib'.upN hso' (.dict ep' ((seen++[k]).map fun k=>(k,.bool true)));have fr3:Fr1 o H o' (up H' sd (.dict ep' ((seen++[k]).map fun k=>(k,.bool true)))):=fr'.upF hsd;have hs3:up H' sd (.dict ep' ((seen++[k]).map fun k=>(k,.bool true))) sd=some (.dict ep' ((seen++[k]).map fun k=>(k,.bool true))):=Zac;generalize up H' sd (.dict ep' ((seen++[k]).map fun k=>(k,.bool true)))=H3 at ib3 fr3 hs3;refine w_st fun K2 nx2=>?_;dsimp only [Zay,x_ao,Zat,Zao,Zad];refine Zc0 hA ib3 rfl ?_;dsimp only [c_in];refine Zg7 ib3 ?_;have nextI:Zbo B k=false→I (m+1) [some (.ref b),some (.str kn),some (.ref nl),some (.ref sd),some (.str k)] H3:=fun h=>hI _ _ _ ⟨o',seen++[k],ep',_,rfl,ib3,fr3,hs3,hso',by refine rl length_append (rl hlm ?_);rfl,by rw [if_neg (by refine rl h ?_;decide)] at hR;exact hR⟩;cases e:pAt B.pacts k with
 | none=>exact nx2 _ _ (nextI (by unfold Zbo;exact rl e rfl))
 | some w =>
 dsimp only [Za1,Zao];obtain ⟨a',ha',ip'⟩:=Zcy ib3.ps (Zbi (j:=w.1) (q:=w.2) e).1;rw [zero_add] at ip';refine Zkl hA ip' (fun Q' h=>?_) ?_
 ·dsimp only [Zav];refine Zc0 hA ib3 rfl ?_;exact Zfh ib3 (j:=w.1) (x:=w.2) e fun a'' h'' _=>by rw [ha'] at h'';obtain rfl:=osi h'';exact h
 (dsimp only [Zai,Zcg,Zaj];refine rl Zpk ?_)
 have hfb:Zbo B k=(w.2.state==.fln):=by unfold Zbo;exact rl e rfl
 cases hw:w.2.state==Sta.fln with
 | false=>exact nx2 _ _ (nextI (hfb.trans hw))
 | true =>
  rw [if_pos (hfb.trans hw)] at hR;rw [← hR] at q;exact ⟨rfl,q o' H3 ib3 fr3⟩
omit U in
theorem Ztc {k:Str} {pa ga ne:Addr} {i:Int} (hU:P.fns.lookup "Pact.__init__" = some BK.f_Pact___init__) (hA:c.P.attrs=BK.attrs) (h:H a=some (.inst "Pact" []))
  (q:∀ w H',H w=none→H' a=some (.inst "Pact" [("name",.str k),("parts",.ref pa),("gains",.ref ga),("needs",.ref ne),("last",.int i),("state",.str (ofString "open")),("inside",.ref w)])→H' w=some (.dict 0 [])→(∀ y,y≠a→y≠w→H' y=H y)→Q .none H'):CallOK c (n+1) true "Pact.__init__" [.ref a,.str k,.ref pa,.ref ga,.ref ne,.int i] Q E H:=by
 refine G.call (F:=BK.f_Pact___init__) hU rfl ?_;have hC:∀ n,BK.attrs.contains ("Pact",n)=true→c.P.attrs.contains ("Pact",n)=true:=fun n h=>by rw [hA];exact h
 refine w_st fun K nx=>?_;dsimp only [Zam,Zad];refine st_a rfl (hC _ rfl) h (by exact (show 0≤100 by decide)) (nx _ _ ?_);refine w_st fun K nx=>?_;dsimp only [Zam,Zad];refine st_a rfl (hC _ rfl) Zac (by exact (show 1≤100 by decide)) (nx _ _ ?_);refine w_st fun K nx=>?_;dsimp only [Zam,Zad];refine st_a rfl (hC _ rfl) Zac (by exact (show 2≤100 by decide)) (nx _ _ ?_);refine w_st fun K nx=>?_;dsimp only [Zam,Zad];refine st_a rfl (hC _ rfl) Zac (by exact (show 3≤100 by decide)) (nx _ _ ?_);refine w_st fun K nx=>?_;dsimp only [Zam,Zad];refine st_a rfl (hC _ rfl) Zac (by exact (show 4≤100 by decide)) (nx _ _ ?_);refine w_st fun K nx=>?_;dsimp only [Zam,Zai];refine st_a rfl (hC _ rfl) Zac (by exact (show 5≤100 by decide)) (nx _ _ ?_);refine w_st fun K nx=>?_;intro w hw;have haw:a≠w:=Zgw hw;refine st_a rfl (hC _ rfl) (by exact rl (Zab haw) (rl Zac rfl)) (by exact (show 6≤100 by decide)) (nx _ _ ?_);refine q w _ (Zdm (Zdm (Zdm (Zdm (Zdm (Zdm hw)))))) Zac (by exact rl (Zab haw.symm) (rl Zac rfl)) fun y h1 h2=>?_;exact rl (Zab h1) (rl (Zab h2) (rl (Zab h1) (rl (Zab h1) (rl (Zab h1) (rl (Zab h1) (rl (Zab h1) (rl (Zab h1) rfl)))))))
end
end Mine
end
section
namespace Mine
noncomputable def sumL (l:List (Str×Int)):Int:=(l.map (·.2)).sum
noncomputable def tqD (B:Bk) (v:AV) (nl:List AV) (last:AV) (ps gs:List (Str×Int)) (_:Unit):Except String Bk:=if Zin last=true∧¬ Zh6 last<B.day then .ok { B with pacts:=B.pacts++[⟨Za2 v,ps,gs,nl.map Za2,Zh6 last,.opn,[]⟩] } else .error "NoDay"
noncomputable def tqB (B:Bk) (v:AV) (nl:List AV) (last:AV) (ps gs:List (Str×Int)):Except String Bk:=if sumL ps≠sumL gs then .error "Uneven" else (Zfq B (Za2 v) nl).bind (tqD B v nl last ps gs)
noncomputable def tqA (B:Bk) (v:AV) (gl:List (AV×AV)) (nl:List AV) (last:AV) (ps:List (Str×Int)):Except String Bk:=(Zem B gl).bind (tqB B v nl last ps)
noncomputable def Zka (B:Bk) (v:AV) (pl gl:List (AV×AV)) (nl:List AV) (last:AV):Except String Bk :=
 if Zd2 v then (if (pAt B.pacts (Za2 v)).isSome then .error "Taken" else (Zem B pl).bind (tqA B v gl nl last)) else .error "NoName"
theorem bnd {α β:Type} {x:Except String α} {f:α→Except String β} {r:β} (h:x.bind f = .ok r):∃ a,x = .ok a∧f a = .ok r:=by
 cases x with
 | error=>cases h
 | ok a=>exact ⟨a,rfl,h⟩
theorem Zr5 {α β:Type} {x:Except String α} {f:α→Except String β} {a:α} (h:x = .ok a):x.bind f=f a:=by refine rl h ?_;rfl
noncomputable def snd2 (H:Zaa):AV→Option AV
 | .ref t=>(match H t with | some (.tuple [_,w])=>some w | _=>none)
 | _=>none
theorem Zm1 {H:Zaa} {t:Addr} {u w:AV} (h:H t=some (.tuple [u,w])):snd2 H (.ref t)=some w:=by
 show (match H t with | some (.tuple [_,w])=>some w | _=>none)=_;exact rl h rfl
section
variable {o o':Addr→Option Role} {H H' H0:Zaa}
theorem Fr1.ext (h:Ext H H'):Fr1 o H o H':=⟨fun a v e k=>⟨h a v e,k⟩,fun a e=>h.none e⟩
theorem IsBook.ext {b f s p:Addr} {as:List Addr} {B:Bk} (ib:IsBook o H b f s p as B) (h:Ext H H'):IsBook o H' b f s p as B:=ib.congr fun a r v _ hr hv _=>⟨hr,h a v hv⟩
theorem pairsU.ext {ts:List Addr} {l:List (Str×Int)} (h:pairsU H0 o H ts l) (hE:Ext H H'):pairsU H0 o H' ts l:=h.keep fun t v _ h1 h2=>⟨h1,hE _ _ h2⟩
theorem pairsG.fr (f:Fr1 o H o' H') {us:List Addr} {l:List (AV×AV)} (h:pairsG o H us l):pairsG o' H' us l:=by
 induction us generalizing l with
 | nil=>cases l with
  | nil=>trivial
  | cons=>exact h.elim
 | cons t r ih=>cases l with
  | nil=>exact h.elim
  | cons g gs=>exact ⟨⟨(f.old _ _ h.1.2.1 h.1.1).2,(f.old _ _ h.1.2.1 h.1.1).1,h.1.2.2⟩,ih h.2⟩
theorem pairsU.gr (g:∀ y,H' y=none→H y=none) {us:List Addr} {l:List (Str×Int)} (h:pairsU H' o H0 us l):pairsU H o H0 us l:=by
 induction us generalizing l with
 | nil=>cases l with
  | nil=>trivial
  | cons=>exact h.elim
 | cons t r ih=>cases l with
  | nil=>exact h.elim
  | cons e l=>exact ⟨⟨g _ h.1.1,h.1.2⟩,ih h.2⟩
theorem Zhs:∀ {ts:List Addr} {l:List (Str×Int)},pairsU H0 o H ts l→((ts.map AV.ref).filterMap (snd2 H))=(l.map (·.2)).map AV.int
 | [],[],_=>rfl
 | t::ts,e::l,h=>by
  rw [map_cons,filterMap_cons,map_cons,map_cons,← Zhs h.2];exact rl (Zm1 h.1.2.2) rfl
 | [],_::_,h=>h.elim
 | _::_,[],h=>h.elim
theorem Zir:∀ {ts:List Addr} {l:List (Str×Int)} {y:AV},pairsU H0 o H ts l→y∈ts.map AV.ref→∃ t k i,y = .ref t∧H t=some (.tuple [.str k,.int i])
 | t::ts,e::l,y,h,hy=>by
  rcases mem_cons.mp hy with rfl | hy
  ·exact ⟨t,_,_,rfl,h.1.2.2⟩
  ·exact Zir h.2 hy
 | [],[],_,_,hy=>by cases hy
 | [],_::_,_,h,_=>h.elim
 | _::_,[],_,h,_=>h.elim
theorem Zdp:∀ {ts:List Addr} {l:List (Str×Int)} {t:Addr},pairsU H0 o H ts l→t∈ts→H0 t=none∧o t=none∧∃ v,H t=some (.tuple v)
 | t::ts,e::l,y,h,hy=>by
  rcases mem_cons.mp hy with rfl | hy
  ·exact ⟨h.1.1,h.1.2.1,_,h.1.2.2⟩
  ·exact Zdp h.2 hy
 | [],[],_,_,hy=>by cases hy
 | [],_::_,_,h,_=>h.elim
 | _::_,[],_,h,_=>h.elim
theorem pairsU.own (hk:∀ t v,t∈ts→H t=some (.tuple v)→o' t=some .data∧H' t=some (.tuple v)) {l:List (Str×Int)} (h:pairsU H0 o H ts l):pairsAV o' H' ts l:=by
 induction ts generalizing l with
 | nil=>cases l with
  | nil=>trivial
  | cons=>exact h.elim
 | cons t ts ih=>cases l with
  | nil=>exact h.elim
  | cons e l =>
   have:=hk t _ mem_cons_self h.1.2.2;exact ⟨this.1,this.2,ih (fun t v ht=>hk t v (mem_cons_of_mem _ ht)) h.2⟩
theorem Zht:∀ {i:Nat} {as:List Addr} {ps:List Pc} {a:Addr} {x:Pc},pactsAt o H i as ps→IsPact o H (i+ps.length) a x→pactsAt o H i (as++[a]) (ps++[x])∧dP (ps++[x]) (as++[a])=dP ps as++[(x.name,.ref a)]
 | _,[],[],a,x,_,hx=>⟨⟨hx,trivial⟩,rfl⟩
 | i,a'::as,q::qs,a,x,h,hx=>by
  obtain ⟨h1,h2⟩:=Zht (i:=i+1) (a:=a) (x:=x) h.2 (by refine rl (show i+1+qs.length=i+(q::qs).length by simp;lia) ?_;exact hx);exact ⟨⟨h.1,h1⟩,by show _::dP (qs++[x]) (as++[a])=_;refine rl h2 ?_;rfl⟩
 | _,[],_::_,_,_,h,_=>h.elim
 | _,_::_,[],_,_,h,_=>h.elim
end
section
variable {c:Cx} {P:Pg} (G:Gd c P) (U:HasP P) {n:Nat} {md:Bool} {Q:AV→Zaa→Prop} {E:String→Zaa→Prop} {H:Zaa} {o:Addr→Option Role} {b f s p a:Addr} {as:List Addr} {B:Bk} {j:Nat} {x:Pc}
theorem Zkb {g:Gx} {V:VV} {i:Nat} {z:Addr} {ts:List Addr} {l:List (Str×Int)} {H0:Zaa} (hmd:g.md=true) (hl9:V.length=9) (hV:V[i]? = some (some (.ref z))) (hz:H z=some (.list (ts.map .ref))) (hu:pairsU H0 o H ts l) (hl:l.length≤1000)
  (q:∀ H',Ext H H'→Q (.int (sumL l)) H'):wpX g (.prim .sum [.comp (.sub (.var 9) (.lit (.int 1))) 1 false (.var i) none]) V Q E H:=by
 (dsimp only [Zak,Zae,Zba,Zad];refine rl hV ?_)
 refine ⟨hmd,?_⟩;refine Zj4 (xs:=ts.map .ref) (by simp only [Zal,hz]) (by refine rl (length_map ..) (rl (Zf7 hu ..) ?_);exact le_trans hl (by decide)) (snd2 H) (fun y hy H' hE nx hnx=>?_) fun a H' hE ha=>?_
 ·obtain ⟨t,k,w,rfl,ht⟩:=Zir hu hy
  (refine Eq.mpr (if_neg (by decide)) ?_;dsimp only [Zbt];refine Eq.mpr (if_pos rfl) ?_;dsimp only [Zav,Zad];refine rl (getElem?_append_right (by lia)) (rl hl9 ?_))
  refine tup1 (hE _ _ ht) ?_;have:=hnx H' .refl;rw [Zm1 ht] at this;exact this
 ·(dsimp only [Zag,Zgn];refine rl hmd (rl Zac ?_))
  refine ⟨rfl,l.map (·.2),Zhs hu,?_⟩;exact q _ (hE.new ha)
theorem Zoc {B:Bk} {l:List (AV×AV)} {acc r:List (Str×Int)} (h:Zfl B l acc = .ok r):r.length=acc.length+l.length:=by
 induction l generalizing acc with
 | nil=>cases h;rfl
 | cons e l ih =>
  have:=ih (Zcw (Zf0 (Zcw h).2).2).2;rw [this,length_append,Nat.add_assoc];exact rl (Nat.add_comm 1 ..) rfl
set_option tactic.hygienic true in
theorem Zis {B:Bk} {l:List (AV×AV)} {r:List (Str×Int)} (h:Zem B l = .ok r):r.length≤1000:=by
 unfold Zem at h;split at h
 ·rename_i hh;refine rl (Zoc h) ?_;simp;lia
 ·contradiction
theorem Zpf {H0 H6:Zaa} {o0 o:Addr→Option Role} {H:Zaa} {b f s p a w za zb zn:Addr} {as ta tb:List Addr} {B:Bk} {k:Str} {ps gs:List (Str×Int)} {ns:List Str} {i:Int} (ib:IsBook o H b f s p as B) (fr:Fr1 o0 H0 o H) (nza:H0 za=none) (nzb:H0 zb=none) (nzn:H0 zn=none) (pa:pairsU H0 o H ta ps) (pb:pairsU H0 o H tb gs) (ha:H a=none) (hw:H w=none) (haw:a≠w)
  (hia:H6 a=some (.inst "Pact" [("name",.str k),("parts",.ref za),("gains",.ref zb),("needs",.ref zn),("last",.int i),("state",.str (ofString "open")),("inside",.ref w)])) (hiw:H6 w=some (.dict 0 [])) (hold:∀ y v,H y=some v→H6 y=some v)
  (hza:H za=some (.list (ta.map .ref))) (hzao:o za=none) (hzb:H zb=some (.list (tb.map .ref))) (hzbo:o zb=none) (hzn:H zn=some (.list (txs ns))) (hzno:o zn=none) (ep:Nat) :
  ∃ o':Addr→Option Role,IsBook o' (up H6 p (.dict ep (dP B.pacts as++[(k,.ref a)]))) b f s p (as++[a]) { B with pacts:=B.pacts++[⟨k,ps,gs,ns,i,.opn,[]⟩] }∧Fr1 o0 H0 o' (up H6 p (.dict ep (dP B.pacts as++[(k,.ref a)]))):=by
 obtain ⟨e1,hf⟩:=ib.hf;obtain ⟨e2,hs⟩:=ib.hs;obtain ⟨e3,hp⟩:=ib.hp;have na:∀ {y v},H y=some v→y≠a:=fun h e=>by rw [e,ha] at h;contradiction
 have nw:∀ {y v},H y=some v→y≠w:=fun h e=>by rw [e,hw] at h;contradiction
 have hd:∃ o':Addr→Option Role,o' a=some (.pact B.pacts.length)∧o' w=some (.inside B.pacts.length)∧(∀ y v,H y=some v→(y=za∨y=zb∨y=zn∨y∈ta∨y∈tb)→o' y=some .data)∧(∀ y v,H y=some v→¬ (y=za∨y=zb∨y=zn∨y∈ta∨y∈tb)→o' y=o y):=by
  refine ⟨fun y=>if y=a then some (.pact B.pacts.length) else if y=w then some (.inside B.pacts.length) else if y=za∨y=zb∨y=zn∨y∈ta∨y∈tb then some .data else o y,if_pos rfl,(if_neg haw.symm).trans (if_pos rfl),fun y v h1 h2=>?_,fun y v h1 h2=>?_⟩
  ·exact (if_neg (na h1)).trans ((if_neg (nw h1)).trans (if_pos h2))
  ·exact (if_neg (na h1)).trans ((if_neg (nw h1)).trans (if_neg h2))
 obtain ⟨o',oa,ow,od,oo⟩:=hd;have nset:∀ {y v r},H y=some v→o y=some r→¬ (y=za∨y=zb∨y=zn∨y∈ta∨y∈tb):=fun {y v r} h1 h2 h=>by
  rcases h with h | h | h | h | h
  ·rw [h,hzao] at h2;contradiction
  ·rw [h,hzbo] at h2;contradiction
  ·rw [h,hzno] at h2;contradiction
  ·rw [(Zdp pa h).2.1] at h2;contradiction
  ·rw [(Zdp pb h).2.1] at h2;contradiction
 have keep:∀ {y v r},H y=some v→o y=some r→y≠p→o' y=some r∧up H6 p (.dict ep (dP B.pacts as++[(k,.ref a)])) y=some v:=fun {y v r} h1 h2 h3=>⟨(oo y v h1 (nset h1 h2)).trans h2,by rw [Zab h3];exact hold y v h1⟩
 have np:∀ {y v},H y=some v→o y=none→y≠p:=fun h1 h2 e=>by rw [e,ib.op] at h2;contradiction
 have kd:∀ {y v},H y=some v→o y=none→(y=za∨y=zb∨y=zn∨y∈ta∨y∈tb)→o' y=some .data∧up H6 p (.dict ep (dP B.pacts as++[(k,.ref a)])) y=some v:=fun {y v} h1 h2 h3=>⟨od y v h1 h3,by rw [Zab (np h1 h2)];exact hold y v h1⟩
 have pap:p≠a:=na hp;have pwp:p≠w:=nw hp;have ip:IsPact o' (up H6 p (.dict ep (dP B.pacts as++[(k,.ref a)]))) (0+B.pacts.length) a ⟨k,ps,gs,ns,i,.opn,[]⟩:=by
  rw [zero_add];refine ⟨oa,za,zb,zn,w,0,by rw [Zab pap.symm];exact hia,?_,?_,?_,?_,ow,by rw [Zab pwp.symm];exact hiw⟩
  ·exact ⟨(kd hza hzao (.inl rfl)).1,ta,(kd hza hzao (.inl rfl)).2,pa.own fun t v ht h=>kd h (Zdp pa ht).2.1 (.inr (.inr (.inr (.inl ht))))⟩
  ·exact ⟨(kd hzb hzbo (.inr (.inl rfl))).1,tb,(kd hzb hzbo (.inr (.inl rfl))).2,pb.own fun t v ht h=>kd h (Zdp pb ht).2.1 (.inr (.inr (.inr (.inr ht))))⟩
  ·exact (kd hzn hzno (.inr (.inr (.inl rfl)))).1
  ·exact (kd hzn hzno (.inr (.inr (.inl rfl)))).2
 have nb:b≠p:=Zcb ib.ob ib.op (by intro h;contradiction);have nf:f≠p:=Zcb ib.of ib.op (by intro h;contradiction);have ns':s≠p:=Zcb ib.os ib.op (by intro h;contradiction);have psk:pactsAt o' (up H6 p (.dict ep (dP B.pacts as++[(k,.ref a)]))) 0 as B.pacts:=ib.ps.congr (P:=Role.isP) (fun y r v hr h1 h2 _=>keep h2 h1 (fun e=>by rw [e,ib.op] at h1;obtain rfl:=osi h1;exact hr)) trivial fun _ _=>⟨trivial,trivial⟩
 obtain ⟨p1,p2⟩:=Zht psk ip;refine ⟨o',⟨(keep ib.hb ib.ob nb).1,(keep hf ib.of nf).1,(keep hs ib.os ns').1,(oo p _ hp (nset hp ib.op)).trans ib.op,(keep ib.hb ib.ob nb).2,⟨e1,(keep hf ib.of nf).2⟩,⟨e2,(keep hs ib.os ns').2⟩,⟨ep,?_⟩,p1⟩,⟨fun y v h1 h2=>?_,fun y h=>?_⟩⟩
 ·show up H6 p _ p=some (.dict ep (dP (B.pacts++[_]) (as++[a])));exact rl Zac (rl p2 rfl)
 ·obtain ⟨h3,h4⟩:=fr.old y v h1 h2;refine ⟨by rw [Zab (np h3 h4)];exact hold y v h3,(oo y v h3 fun h=>?_).trans h4⟩;rcases h with h | h | h | h | h
  ·rw [h,nza] at h1;contradiction
  ·rw [h,nzb] at h1;contradiction
  ·rw [h,nzn] at h1;contradiction
  ·rw [(Zdp pa h).1] at h1;contradiction
  ·rw [(Zdp pb h).1] at h1;contradiction
 ·refine fr.gr y ?_;cases hy:H y with
  | none=>rfl
  | some v=>have:=Zdm h;rw [hold y v hy] at this;contradiction
include G U
theorem Zst {v last:AV} {pl gl nl:Addr} {ts us:List Addr} {pL gL:List (AV×AV)} {nL:List AV} (hU:P.fns.lookup "Book.tell" = some BK.f_Book_tell) (hU1:P.fns.lookup "Book.pairs_of" = some BK.f_Book_pairs_of) (hU2:P.fns.lookup "Book.needs_of" = some BK.f_Book_needs_of) (hU3:P.fns.lookup "Pact.__init__" = some BK.f_Pact___init__) (hcl:c.P.classes.contains "Pact" = true)
  (ib:IsBook o H b f s p as B) (ok:BkOK B) (kv:Kv v) (kl:Kv last) (hp:H pl=some (.list (ts.map .ref))) (hpo:o pl=none) (hpg:pairsG o H ts pL) (hg:H gl=some (.list (us.map .ref))) (hgo:o gl=none) (hgg:pairsG o H us gL) (hn:H nl=some (.list nL)) (hno:o nl=none) (hng:∀ v∈nL,Kv v)
  (l1:pL.length≤1000) (l2:gL.length≤1000) (l3:nL.length≤1000)
  (q:Ends (Zka B v pL gL nL last) (fun B'=>∀ o' H' as',IsBook o' H' b f s p as' B'→Fr1 o H o' H'→Q .none H') (fun cl=>∀ o' H',IsBook o' H' b f s p as B→Fr1 o H o' H'→E cl H')):CallOK c (n+4) true "Book.tell" [.ref b,v,.ref pl,.ref gl,.ref nl,last] Q E H:=by
 refine G.call (F:=BK.f_Book_tell) hU rfl ?_;have hA:c.P.attrs=BK.attrs:=by exact rl G.hP (rl U.a.attrs rfl)
 have hM:c.P.meths=BK.meths:=by exact rl G.hP (rl U.a.meths rfl)
 refine q.gen fun A F qA qF q=>?_;refine w_st fun K nx=>?_;refine Zma G U.a kv.kn ?_;cases hnb:Zd2 v with
 | false=>exact qF _ (q.f (by refine rl hnb ?_;decide)) o H ib .refl
 | true =>
 obtain ⟨k,rfl⟩:∃ k,v = .str k:=⟨_,Zeb hnb⟩
 replace q:=q.t hnb;refine nx _ _ ?_;refine w_st fun K nx=>?_;dsimp only [Zay,Zao,Zad];refine Zc0 hA ib rfl ?_;dsimp only [c_in];refine Zg7 ib ?_;cases e:pAt B.pacts k with
 | some w=>exact ⟨rfl,qF _ (q.t (congrArg Option.isSome e)) o H ib .refl⟩
 | none =>
 replace q:=q.f fun h=>Bool.false_ne_true ((congrArg Option.isSome e).symm.trans h);refine nx _ _ ?_;refine w_st fun K nx=>?_;dsimp only [Zam];refine Zbw hM (by decide) (by decide) ib rfl ?_;refine Zhr G U hU1 ib hp hpo hpg l1 ?_;cases e1:Zem B pL with
 | error cl=>exact qF _ (q.er e1)
 | ok ps =>
 replace q:Ends (tqA _ _ _ _ _ _) _ _:=q.ok e1;intro za ta o1 H1 hza hzo1 hz1 pu1 ib1 f1;refine ⟨show 6<9 by decide,nx _ _ ?_⟩;refine w_st fun K nx=>?_;dsimp only [Zam];refine Zbw hM (by decide) (by decide) ib1 rfl ?_;obtain ⟨hg1,hgo1⟩:=f1.old _ _ hg hgo;have hgg1:=hgg.fr f1;refine Zhr G U hU1 ib1 hg1 hgo1 hgg1 l2 ?_;cases e2:Zem B gL with
 | error cl=>exact fun o' H' ib' f'=>qF _ (q.er e2) o' H' ib' (f1.trans f')
 | ok gs =>
 replace q:Ends (tqB _ _ _ _ _ _) _ _:=q.ok e2;intro zb tb o2 H2 hzb hzo2 hz2 pu2 ib2 f2;refine ⟨show 7<9 by decide,nx _ _ ?_⟩;obtain ⟨hz1',hzo1'⟩:=f2.old _ _ hz1 hzo1;have pu1':pairsU H o2 H2 ta ps:=pu1.keep fun t v _ h1 h2=>⟨(f2.old _ _ h2 h1).2,(f2.old _ _ h2 h1).1⟩
 have pu2':=pu2.gr f1.gr;have fr2:=f1.trans f2;have lps:ps.length≤1000:=Zis e1;have lgs:gs.length≤1000:=Zis e2;refine w_st fun K nx=>?_;show wpS _ _ _ _ _ [some (.ref b),some (.str k),some (.ref pl),some (.ref gl),some (.ref nl),some last,some (.ref za),some (.ref zb),none] _;dsimp only [Zay,Zao];refine Zkb rfl rfl rfl hz1' pu1' lps fun H3 hE3=>?_;refine Zkb rfl rfl rfl (hE3 _ _ hz2) (pu2'.ext hE3) lgs fun H4 hE4=>?_;dsimp only [c_ne,Zaj];have hE:=hE3.trans hE4;have ib4:=ib2.ext hE;have fr4:Fr1 o H o2 H4:=fr2.trans (.ext hE);have pa4':=pu1'.ext hE;have pb4':=pu2'.ext hE;have hza4:=hE _ _ hz1';have hzb4:=hE _ _ hz2;by_cases hsum:sumL ps=sumL gs
 case neg =>
  refine Eq.mpr (if_pos (by simpa using hsum)) ?_;exact ⟨rfl,qF _ (q.t hsum) o2 H4 ib4 fr4⟩
 replace q:=q.f fun h=>h hsum;refine Eq.mpr (if_neg (by simpa using hsum)) ?_;refine nx _ _ ?_;refine w_st fun K nx=>?_;dsimp only [Zam];refine Zbw hM (by decide) (by decide) ib4 rfl ?_;refine Eq.mpr (Zae) (Eq.mpr (Zad) ?_);obtain ⟨hn4,hno4⟩:=fr4.old _ _ hn hno;refine Zl8 G U hU2 ib4 hn4 hno4 hng l3 ?_;cases e3:Zfq B k nL with
 | error cl=>exact fun o' H' ib' f'=>qF _ (q.er e3) o' H' ib' (fr4.trans f')
 | ok u =>
 replace q:Ends (tqD _ _ _ _ _ _ _) _ _:=q.ok e3;intro zn o5 H5 hzn hzno hzn5 ib5 f5;have fr5:=fr4.trans f5;obtain ⟨hza5,hzao5⟩:=f5.old _ _ hza4 hzo1';obtain ⟨hzb5,hzbo5⟩:=f5.old _ _ hzb4 hzo2;have pa5:pairsU H o5 H5 ta ps:=pa4'.keep fun t v _ h1 h2=>⟨(f5.old _ _ h2 h1).2,(f5.old _ _ h2 h1).1⟩
 have pb5:pairsU H o5 H5 tb gs:=pb4'.keep fun t v _ h1 h2=>⟨(f5.old _ _ h2 h1).2,(f5.old _ _ h2 h1).1⟩
 refine ⟨show 8<9 by decide,nx _ _ ?_⟩;have hnt:nL=txs (nL.map Za2):=by
  unfold Zfq at e3;split at e3
  ·exact Zok e3
  ·contradiction
 refine w_st fun K nx=>?_;show wpS _ _ _ _ _ [some (.ref b),some (.str k),some (.ref pl),some (.ref gl),some (.ref nl),some last,some (.ref za),some (.ref zb),some (.ref zn)] _;dsimp only [Zay,x_ao,Zat,Za6,Zan,Zae,Zad];refine Zfb G U.a kl.kn ?_;cases hwl:Zin last with
 | false=>exact ⟨rfl,qF _ (q.f fun h=>Bool.false_ne_true (hwl.symm.trans h.1)) o5 H5 ib5 fr5⟩
 | true =>
 obtain ⟨i,rfl⟩:∃ i,last = .int i:=by cases last<;>first | exact ⟨_,rfl⟩ | cases hwl
 (dsimp only [Zaj];refine Eq.mpr (if_pos (show (!true)=false from rfl)) ?_;dsimp only [Za1,Zao,Zad])
 refine Zr7 hA ib5 rfl ?_;dsimp only [c_lt,Zaj];by_cases hd:i<B.day
 ·refine rl (decide_eq_true hd) ?_;exact ⟨rfl,qF _ (q.f fun h=>h.2 hd) o5 H5 ib5 fr5⟩
 replace q:=q.t ⟨hwl,hd⟩;refine rl (decide_eq_false hd) ?_;refine nx _ _ ?_;refine w_st fun K nx=>?_;dsimp only [Zam,Zch];intro a ha;refine Ztc G hU3 hA Zac fun w H6 hw hia hiw hrest=>⟨rfl,?_⟩
 have haw:a≠w:=Zgw hw;have hw5:H5 w=none:=Zdm hw;have hold:∀ y v,H5 y=some v→H6 y=some v:=fun y v h=>by
  have h1:y≠a:=fun z=>by rw [z,ha] at h;contradiction
  have h2:y≠w:=fun z=>by rw [z,hw5] at h;contradiction
  refine rl (hrest y h1 h2) (rl (Zab h1) ?_);exact h
 obtain ⟨ep,hpd⟩:=ib5.hp;have hl5:=Zgk ib5.ps;dsimp only [tsub];have ib6:IsBook o5 H6 b f s p as B:=ib5.ext hold;refine Zc0 hA ib6 rfl ?_;show match H6 p with | some (.dict _ _)=>_ | _=>False
 refine rl (hold _ _ hpd) ?_;refine ⟨by have h1:=congrArg List.length hl5.1;rw [length_map,length_map,hl5.2] at h1;refine rl h1 ?_;exact le_trans ok.len (by decide),fun ep'=>nx _ _ ?_⟩;have hnone:Zb8 (dP B.pacts as) k=none:=by refine rl (Zen ib5.ps) (rl e ?_);rfl
 have hput:putS (dP B.pacts as) k (.ref a)=dP B.pacts as++[(k,.ref a)]:=by unfold putS;refine rl hnone ?_;rfl
 refine rl hput ?_;obtain ⟨o',ib',fr'⟩:=Zpf ib5 fr5 hza (f1.gr _ hzb) (fr4.gr _ hzn) pa5 pb5 ha hw5 haw hia hiw hold hza5 hzao5 hzb5 hzbo5 (hnt▸hzn5) hzno ep';exact qA _ q o' _ (as++[a]) ib' fr'
end
end Mine
end
section
namespace Mine
noncomputable def Zif (ks:List Str) (k:Str):List Str:=if k∈ks then ks else ks++[k]
theorem Znh {es:List (Str×AV)} {k:Str}:(Zb8 es k).isSome=decide (k∈es.map (·.1)):=by
 unfold Zb8;rw [isSome_map,Bool.eq_iff_iff,List.find?_isSome];simp
theorem Zs9 {es:List (Str×AV)} {k:Str} {v:AV}:(putS es k v).map (·.1)=Zif (es.map (·.1)) k:=by
 unfold putS Zif;refine rl Znh ?_;by_cases h:k∈es.map (·.1)
 ·simp only [h,decide_true,if_true,map_map];apply map_congr_left;intro e _;simp only [Function.comp];split<;>simp_all
 ·simp only [h,decide_false,if_false,Bool.false_eq_true,map_append,map_cons,List.map_nil]
theorem Zpz {es:List (Str×AV)} {k:Str} {v:AV}:(putS es k v).length≤es.length+1:=by
 unfold putS;split<;>simp
set_option tactic.hygienic true in
theorem Zon {ks:List Str} {k x:Str}:x∈Zif ks k↔x∈ks∨x=k:=by
 unfold Zif;split
 ·constructor
  ·exact .inl
  ·rintro (h | rfl)<;>assumption
 ·simp
noncomputable def Zi3 (l:List Str):List Str:=l.foldl Zif []
theorem Zmc {l:List Str} {x:Str}:Zi3 (l++[x])=Zif (Zi3 l) x:=by simp [Zi3]
theorem Zqx {l:List Str}:∀ {ks:List Str} {x:Str},x∈l.foldl Zif ks↔x∈ks∨x∈l:=by
 induction l with
 | nil=>simp
 | cons t r ih =>
  intro ks x;rw [List.foldl_cons,ih,Zon,mem_cons];constructor
  ·rintro ((h | h) | h)
   ·exact .inl h
   ·exact .inr (.inl h)
   ·exact .inr (.inr h)
  ·rintro (h | h | h)
   ·exact .inl (.inl h)
   ·exact .inl (.inr h)
   ·exact .inr h
theorem Zom {l:List Str} {x:Str}:x∈Zi3 l↔x∈l:=by unfold Zi3;rw [Zqx];simp
section
variable {c:Cx} {P:Pg} (G:Gd c P) {n:Nat} {md:Bool} {Q:AV→Zaa→Prop} {E:String→Zaa→Prop} {H:Zaa}
def TabIs (H:Zaa) (z:Addr) (l:List Str):Prop:=∃ ep es,H z=some (.dict ep es)∧es.length≤l.length∧∀ k,(Zb8 es k).isSome=decide (k∈l)
theorem TabIs.ext {H H':Zaa} {z:Addr} {l:List Str} (h:TabIs H z l) (e:Ext H H'):TabIs H' z l:=by
 obtain ⟨ep,es,h1,h2⟩:=h;exact ⟨ep,es,e _ _ h1,h2⟩
theorem Zo9 {no:Bool} {x:Str} {a:Addr} {l:List Str} (h:TabIs H a l) (q:Q (.bool (decide (x∈l) != no)) H):win no (.str x) (.ref a) Q H:=by
 obtain ⟨ep,es,h1,h2,h3⟩:=h;refine Zmt h1 ?_;refine rl (h3 ..) ?_;exact q
include G in
theorem Zjh (hf:P.fns.lookup "table_of" = some BK.f_table_of) {a:Addr} {l:List Str} (ha:H a=some (.list (txs l))) (hl:l.length≤1000)
  (q:∀ z H',Ext H H'→H z=none→TabIs H' z l→Q (.ref z) H'):CallOK c (n+1) true "table_of" [.ref a] Q E H:=by
 refine G.call (F:=BK.f_table_of) hf rfl ?_;refine w_st fun K nx=>?_;intro z hz;refine ⟨show 1<3 by decide,nx _ _ ?_⟩;refine w_st fun K nx=>?_;dsimp only [Zb3,Zad];refine ⟨rfl,?_⟩;show WFor _ _ (.ref a) _ _;refine Zdb (xs:=txs l) (by simp only [Zal];exact rl (Zdl ha hz) rfl) (fun k V' H'=>∃ ep es x,V'=[some (.ref a),some (.ref z),x]∧Ext H H'∧H' z=some (.dict ep es)∧es.length≤k∧es.map (·.1)=Zi3 (l.take k))
  ⟨0,[],none,rfl,Ext.refl.own hz,Zac,le_refl _,rfl⟩ ?_
 rintro I hI k V' H' ⟨ep,es,x,rfl,hE,hz',hlen,hk⟩;refine ⟨by show H' a=_;exact rl (hE a _ ha) (rl (Zdl ha hz) rfl),fun hkl=>?_,fun y hy=>?_⟩
 ·rw [hkl,Zaf,take_length] at hk;rw [hkl,Zaf] at hlen;exact nx _ _ (q z H' hE hz ⟨ep,es,hz',hlen,fun key=>by refine rl Znh (rl hk ?_);simp [Zom]⟩)
 ·obtain ⟨s,rfl,hs⟩:=Zjf hy;have hkl:k<l.length:=(gsi hs).1;refine ⟨show 2<3 by decide,?_⟩;refine w_st fun K2 nx2=>?_;show wpS _ _ _ _ _ [some (.ref a),some (.ref z),some (.str s)] _;refine Eq.mpr (Zam) (Eq.mpr (Zai) (Eq.mpr (tsub) (Eq.mpr (Zad) ?_)));show match H' z with | some (.dict _ _)=>_ | _=>False
  refine rl hz' ?_;refine ⟨le_trans (show es.length≤1000 by lia) (by decide),fun ep'=>nx2 _ _ (hI _ _ _ ⟨ep',putS es s (.bool true),_,rfl,hE.own hz,Zac,?_,?_⟩)⟩
  ·have:=Zpz (es:=es) (k:=s) (v:=.bool true);lia
  ·exact rl Zs9 (rl hk (rl (Zb4 hs) (rl Zmc rfl)))
def NeedsAt (H:Zaa) (d:Addr) (nd:Str→List Str) (l:List Str):Prop:=∃ ep es,H d=some (.dict ep es)∧∀ x∈l,∃ r,Zb8 es x=some (.ref r)∧H r=some (.list (txs (nd x)))∧(nd x).length≤1000
theorem NeedsAt.ext {H H':Zaa} {z:Addr} {l:List Str} {nd:Str→List Str} (h:NeedsAt H z nd l) (e:Ext H H'):NeedsAt H' z nd l:=by
 obtain ⟨ep,es,h1,h2⟩:=h;refine ⟨ep,es,e _ _ h1,fun x hx=>?_⟩;obtain ⟨r,h3,h4,h5⟩:=h2 x hx;exact ⟨r,h3,e _ _ h4,h5⟩
theorem NeedsAt.sub {H:Zaa} {z:Addr} {l l':List Str} {nd:Str→List Str} (h:NeedsAt H z nd l) (e:∀ x∈l',x∈l):NeedsAt H z nd l':=by
 obtain ⟨ep,es,h1,h2⟩:=h;exact ⟨ep,es,h1,fun x hx=>h2 x (e x hx)⟩
noncomputable def metB (nd:Str→List Str) (K D:List Str) (x:Str):Bool:=(nd x).all fun o=>decide (o∈K)||decide (o∈D)
include G in
theorem Zvj (hf:P.fns.lookup "are_met" = some BK.f_are_met) {a d kt dt:Addr} {l K D:List Str} {nd:Str→List Str} (ha:H a=some (.list (txs l))) (hd:NeedsAt H d nd l) (hk:TabIs H kt K) (ht:TabIs H dt D) (hl:l.length≤1000)
  (q:∀ z H',Ext H H'→H z=none→H' z=some (.list (txs (l.filter (metB nd K D))))→Q (.ref z) H'):CallOK c (n+1) true "are_met" [.ref a,.ref d,.ref kt,.ref dt] Q E H:=by
 refine G.call (F:=BK.f_are_met) hf rfl ?_;refine w_st fun KK nx=>?_;intro z hz;refine ⟨show 4<6 by decide,nx _ _ ?_⟩;refine w_st fun KK nx=>?_;dsimp only [Zb3,Zad];refine ⟨rfl,?_⟩;show WFor _ _ (.ref a) _ _;refine Zdb (xs:=txs l) (by simp only [Zal];exact rl (Zdl ha hz) rfl) (fun k V' H'=>∃ x,V'=[some (.ref a),some (.ref d),some (.ref kt),some (.ref dt),some (.ref z),x]∧Ext H H'∧H' z=some (.list (txs ((l.take k).filter (metB nd K D)))))
  ⟨none,rfl,Ext.refl.own hz,Zac⟩ ?_
 rintro I hI k V' H' ⟨x,rfl,hE,hz'⟩;refine ⟨by show H' a=_;exact rl (hE a _ ha) (rl (Zdl ha hz) rfl),fun hkl=>?_,fun y hy=>?_⟩
 ·rw [hkl,Zaf,take_length] at hz';exact nx _ _ (q z H' hE hz hz')
 ·obtain ⟨s,rfl,hs⟩:=Zjf hy;have hkl:k<l.length:=(gsi hs).1;obtain ⟨ep,es,hd1,hd2⟩:=hd.ext hE;obtain ⟨r,hr1,hr2,hr3⟩:=hd2 s (mem_of_getElem? hs);refine ⟨show 5<6 by decide,?_⟩;refine w_st fun K2 nx2=>?_;show wpS _ _ _ _ _ [some (.ref a),some (.ref d),some (.ref kt),some (.ref dt),some (.ref z),some (.str s)] _;dsimp only [Zay,Zao,Zba];refine ⟨rfl,?_⟩;refine Eq.mpr (Zav) (Eq.mpr (Zad) ?_);show wsub (.ref d) (.str s) _ _
  (dsimp only [Ze1];refine rl hd1 ?_)
  refine ⟨_,hr1,?_⟩;refine Zj4 (xs:=txs (nd s)) (by simp only [Zal];rw [hr2]) (by rw [Zaf];exact le_trans hr3 (by decide)) (fun v=>match v with | .str o=>if (decide (o∈K)||decide (o∈D)) then none else some (.str o) | _=>none) ?_ ?_
  ·intro v hv H₁ hE₁ nx hnx;obtain ⟨o,ho,rfl⟩:∃ o,o∈nd s∧v = .str o:=by
    unfold txs at hv;rw [mem_map] at hv;obtain ⟨o,h1,h2⟩:=hv;exact ⟨o,h1,h2.symm⟩
   refine Eq.mpr (if_neg (by decide)) (Eq.mpr (Zbg) (Eq.mpr (x_ao) (Eq.mpr (Zat) (Eq.mpr (Zao) (Eq.mpr (Zad) ?_)))));dsimp only [Zad];show wcmp .NotIn (.str o) (.ref kt) _ _;dsimp only [Zc7];refine Zo9 ((hk.ext hE).ext hE₁) ?_;have hn:=hnx H₁ .refl;by_cases h1:o∈K
   ·simp only [h1,decide_true,Bool.true_or,if_true] at hn ⊢;exact hn
   ·simp only [h1,decide_false,Bool.false_or] at hn ⊢;show wpAO _ true [_] _ _ _ _;refine Eq.mpr (Za1) (Eq.mpr (Zao) (Eq.mpr (Zad) ?_));dsimp only [Zad];show wcmp .NotIn (.str o) (.ref dt) _ _;dsimp only [Zc7];refine Zo9 ((ht.ext hE).ext hE₁) ?_;by_cases h2:o∈D
    ·simp only [h2,decide_true,if_true] at hn ⊢;exact hn
    ·simp only [h2,decide_false,Bool.false_eq_true,if_false] at hn ⊢;exact hn
  ·intro b H₁ hE₁ hb;have hfm:∀ l:List Str,(txs l).filterMap (fun v=>match v with | .str o=>if (decide (o∈K)||decide (o∈D)) then none else some (AV.str o) | _=>none)=txs (l.filter fun o=>!decide (o∈K)&&!decide (o∈D)):=by
    intro l
    induction l with
    | nil=>rfl
    | cons t r ih =>
     refine rl filterMap_cons (rl ih (rl filter_cons ?_));by_cases h1:t∈K<;>by_cases h2:t∈D<;>simp [txs,h1,h2]
   refine rl (hfm ..) ?_;intro b' hb';dsimp only [Z1s];refine Zhb (l:=(nd s).filter fun o=>!decide (o∈K)&&!decide (o∈D)) (l':=[]) (Zdl Zac hb') Zac ?_;have hz₁:H₁ z=some (.list (txs ((l.take k).filter (metB nd K D)))):=hE₁ _ _ hz';have hbz:z≠b:=Zh0 hz₁ hb;have hb1:H₁ b'=none:=by
    have:b'≠b:=fun w=>by rw [w,Zac] at hb';contradiction
    rwa [Zab this] at hb'
   have hbz':z≠b':=Zh0 hz₁ hb1;have hz₂:(up (up H₁ b (.list (txs ((nd s).filter fun o=>!decide (o∈K)&&!decide (o∈D))))) b' (.list [])) z=some (.list (txs ((l.take k).filter (metB nd K D)))):=by
    refine rl (Zab hbz') (rl (Zab hbz) ?_);exact hz₁
   have hE₂:Ext H (up (up H₁ b (.list (txs ((nd s).filter fun o=>!decide (o∈K)&&!decide (o∈D))))) b' (.list [])):=((hE.trans hE₁).new hb).new hb';have hm:decide ((nd s).filter (fun o=>!decide (o∈K)&&!decide (o∈D))=[])=metB nd K D s:=by
    unfold metB;rw [Bool.eq_iff_iff];simp only [decide_eq_true_eq,List.filter_eq_nil_iff,all_eq_true,Bool.or_eq_true,Bool.and_eq_true,Bool.not_eq_true',decide_eq_false_iff_not];constructor
    ·intro h o ho;by_cases h1:o∈K
     ·exact .inl h1
     ·exact .inr (Classical.byContradiction fun h2=>h o ho ⟨h1,h2⟩)
    ·rintro h o ho ⟨h1,h2⟩;rcases h o ho with z | z
     ·exact h1 z
     ·exact h2 z
   refine rl hm ?_;cases h:metB nd K D s with
   | true =>
    refine w_st fun K3 nx3=>?_;refine ⟨?_,?_⟩
    ·show match (up (up H₁ b _) b' _) z with | some (.list _)=>_ | some (.dict _ _)=>_ | _=>False
     refine rl hz₂ ?_;exact .inl rfl
    dsimp only [Zae,Zad];show wpXs _ [] _ _ _ _;dsimp only [Zag];refine Zde hz₂ (by have:=length_filter_le (metB nd K D) (l.take k);rw [length_take] at this;refine rl Zaf ?_;omega) (nx3 _ _ (nx2 _ _ ?_));refine hI _ _ _ ⟨_,rfl,hE₂.own hz,?_⟩;refine rl (Zac ..) (rl (Zb4 hs ..) (rl (filter_append ..) (rl (Zd7 ..) ?_)));simp [h]
   | false =>
    refine nx2 _ _ (hI _ _ _ ⟨_,rfl,hE₂,?_⟩);refine rl (hz₂ ..) (rl (Zb4 hs ..) (rl (filter_append ..) ?_));simp [h]
end
def Znx (full:List Str) (nd:Str→List Str) (done:List Str) (S:Str→Prop):Prop:=∀ x,S x→x∈full∧∀ o∈nd x,S o∨o∈done
structure Grt (full:List Str) (nd:Str→List Str) (done g:List Str):Prop where
 sub:g.Sublist full
 met:∀ x∈g,∀ o∈nd x,o∈g∨o∈done
 top:∀ S,Znx full nd done S→∀ x,S x→x∈g
theorem Zmi {α:Type} {p:α→Bool} {l:List α} (h:l.length≤(l.filter p).length):l.filter p=l:=by
 apply List.Sublist.eq_of_length filter_sublist;have:=length_filter_le p l;lia
section
variable {c:Cx} {P:Pg} (G:Gd c P) {n:Nat} {Q:AV→Zaa→Prop} {E:String→Zaa→Prop} {H:Zaa}
def GInv (H:Zaa) (full done:List Str) (nd:Str→List Str) (fu d dn rd:Addr) (k:Nat) (V':VV) (H':Zaa):Prop :=
 ∃ na fo nl,V'=[some (.ref fu),some (.ref d),some (.ref dn),some (.ref rd),some (.ref na),some (.ref fo)]∧Ext H H'∧TabIs H' rd done∧H' na=some (.list (txs nl))∧k=nl.length∧nl.Sublist full ∧
  (∀ S,Znx full nd done S→∀ x,S x→x∈nl)∧H' fo=some (.list (txs (nl.filter (metB nd nl done))))∧H fo=none
theorem Zqv {full done nl:List Str} {nd:Str→List Str} (h:∀ S,Znx full nd done S→∀ x,S x→x∈nl):∀ S,Znx full nd done S→∀ x,S x→x∈nl.filter (metB nd nl done):=by
 intro S hS x hx;rw [mem_filter];refine ⟨h S hS x hx,?_⟩;unfold metB;rw [all_eq_true];intro o ho;rcases (hS x hx).2 o ho with z | z
 ·simp [h S hS o z]
 ·simp [z]
set_option tactic.hygienic true in
include G in
theorem Zmf (h1:P.fns.lookup "greatest" = some BK.f_greatest) (h2:P.fns.lookup "are_met" = some BK.f_are_met) (h3:P.fns.lookup "table_of" = some BK.f_table_of) {fu d dn:Addr} {full done:List Str} {nd:Str→List Str}
  (hf:H fu=some (.list (txs full))) (hd:NeedsAt H d nd full) (hn:H dn=some (.list (txs done))) (lf:full.length≤1000) (ld:done.length≤1000)
  (q:∀ z H' g,Ext H H'→H z=none→H' z=some (.list (txs g))→Grt full nd done g→Q (.ref z) H'):CallOK c (n+2) true "greatest" [.ref fu,.ref d,.ref dn] Q E H:=by
 refine G.call (F:=BK.f_greatest) h1 rfl ?_;show wpSs _ _ _ _ _ [some (.ref fu),some (.ref d),some (.ref dn),none,none,none] _;refine w_st fun KK nx=>?_;dsimp only [Zam,tv,length_cons,length_nil,Nat.reduceAdd,set_cons_succ,set_cons_zero,Zan,Zae,Zag,Zad,getElem?_cons_succ,v_0];refine Zjh G h3 hn ld fun rd H₁ hE₁ hrd ht1=>⟨by decide,nx _ _ ?_⟩
 refine w_st fun KK nx=>?_;dsimp only [Zam,tv,length_cons,length_nil,Nat.reduceAdd,set_cons_succ,set_cons_zero,Zak,Zae,Zag,Zad,v_0];refine Zf9 (hE₁ _ _ hf) lf fun na hna=>⟨by decide,nx _ _ ?_⟩
 have hE₂:=hE₁.new (o:=.list (txs full)) hna;refine w_st fun KK nx=>?_;dsimp only [Zam,tv,length_cons,length_nil,Nat.reduceAdd,set_cons_succ,set_cons_zero,Zan,Zae,Zag,Zad,getElem?_cons_succ,v_0];refine Zjh G h3 (a:=na) (l:=full) Zac lf fun kt H₃ hE₃ hkt ht₃=>?_;have hE:Ext H H₃:=hE₂.trans hE₃;have hE13:Ext H₁ H₃:=(Ext.refl.new hna).trans hE₃;have hna3:H₃ na=some (.list (txs full)):=hE₃ _ _ Zac;refine Zvj G h2 hna3 (hd.ext hE) ht₃ (ht1.ext hE13) lf fun fo H₄ hE₄ hfo hfo'=>⟨by decide,nx _ _ ?_⟩
 refine w_st fun KK nx=>?_;dsimp only [Zb0];refine ⟨rfl,GInv H full done nd fu d dn rd,⟨full.length,na,fo,full,rfl,hE.trans hE₄,(ht1.ext hE13).ext hE₄,hE₄ _ _ hna3,rfl,List.Sublist.refl _,fun S hS x hx=>(hS x hx).1,hfo',hE.none hfo⟩,?_⟩;rintro k V' H' ⟨na',fo',nl,rfl,hX,hR,hN,rfl,hS,hT,hF,hFn⟩;have hlen:nl.length≤full.length:=hS.length_le;have hlen':=length_filter_le (metB nd nl done) nl;have hS':(nl.filter (metB nd nl done)).Sublist full:=filter_sublist.trans hS;have hT':=Zqv hT;generalize hfl:nl.filter (metB nd nl done)=fl at hF hlen' hS' hT';dsimp only [Zao,Zak,Zae,Zag,Zad,getElem?_cons_succ,v_0];refine Zjr hF (by refine rl Zaf ?_;lia) ?_;refine Zjr hN (by refine rl Zaf ?_;exact le_trans (by assumption) (le_trans (by assumption) (by decide))) ?_
 (dsimp only [c_lt,Zaj];refine rl Zaf (rl Zaf ?_))
 by_cases hlt:fl.length<nl.length
 ·refine rl (decide_eq_true (by exact ofNat_lt.mpr (by assumption))) ?_;show wpSs _ _ _ _ _ [some (.ref fu),some (.ref d),some (.ref dn),some (.ref rd),some (.ref na'),some (.ref fo')] _;refine w_st fun K2 nx2=>?_;refine ⟨show 4<6 by decide,nx2 _ _ ?_⟩;refine w_st fun K2 nx2=>?_;dsimp only [set_cons_succ,set_cons_zero,Zam,tv,length_cons,length_nil,Nat.reduceAdd,Zan,Zae,Zag,Zad,getElem?_cons_succ,v_0];refine Zjh G h3 hF (by lia) fun kt' H₅ hE5 _ ht₅=>?_;refine Zvj G h2 (hE5 _ _ hF) (((hd.ext hX).ext hE5).sub fun x hx=>hS'.subset hx) ht₅ (hR.ext hE5) (by lia) fun fo2 H₆ hE6 hfo2 hfo2'=>⟨by decide,nx2 _ _ ?_⟩
  exact ⟨_,hlt,fo',fo2,_,rfl,(hX.trans hE5).trans hE6,(hR.ext hE5).ext hE6,hE6 _ _ (hE5 _ _ hF),rfl,hS',hT',hfo2',(hX.trans hE5).none hfo2⟩
 ·refine rl (decide_eq_false (by lia)) ?_;refine nx _ _ ?_;have he:fl=nl:=by
   rw [← hfl] at hlt ⊢;exact Zmi (by exact not_lt.mp (by assumption))
  rw [he] at hF;refine q fo' H' nl hX hFn hF ⟨hS,fun x hx o ho=>?_,hT⟩;rw [← he,← hfl,mem_filter] at hx;have:=hx.2;unfold metB at this;rw [all_eq_true] at this;simpa using this o ho
end
end Mine
end
section
namespace Mine
noncomputable def Zcs (ps:List Pc):List Str:=(ps.filter Zgx).map (·.name)
noncomputable def Zc6 (ps:List Pc):List Str:=(ps.filter fun x=>x.state==.dn).map (·.name)
noncomputable def ndB (B:Bk) (k:Str):List Str:=match pAt B.pacts k with
 | some e=>e.2.needs
 | none=>[]
theorem Zow {ps:List Pc} {x:Pc}:Zcs (ps++[x])=Zcs ps++(if Zgx x then [x.name] else []):=by
 unfold Zcs;refine rl (filter_append ..) (rl (map_append ..) ?_);cases h:Zgx x<;>simp [h]
theorem Zgj {ps:List Pc} {x:Pc}:Zc6 (ps++[x])=Zc6 ps++(if x.state==.dn then [x.name] else []):=by
 unfold Zc6;refine rl (filter_append ..) (rl (map_append ..) ?_);cases h:x.state==Sta.dn<;>simp [h]
theorem Zk4 {ps:List Pc}:(Zcs ps).length≤ps.length:=by unfold Zcs;refine rl (length_map ..) ?_;exact length_filter_le _ _
theorem Zid {ps:List Pc}:(Zc6 ps).length≤ps.length:=by unfold Zc6;refine rl (length_map ..) ?_;exact length_filter_le _ _
theorem Zci:∀ {ps:List Pc} {j:Nat} {x:Pc},(ps.map (·.name)).Nodup→ps[j]? = some x→pAt ps x.name=some (j,x)
 | q::r,0,x,_,h=>by obtain rfl:=osi h;unfold pAt;exact rl (if_pos rfl) rfl
 | q::r,j+1,x,hn,h=>by
  rw [map_cons,nodup_cons] at hn;have hx:x∈r:=mem_of_getElem? h;unfold pAt;refine rl (if_neg (fun e=>hn.1 (by rw [e];exact mem_map_of_mem hx))) (rl (Zci hn.2 h) ?_);rfl
 | [],_,_,_,h=>by contradiction
def NAt (o:Addr→Option Role) (H:Zaa) (r e:Addr) (nd:Str→List Str) (es:List (Str×AV)) (l:List Str):Prop:=∀ x∈l,∃ ρ,Zb8 es x=some (.ref ρ)∧ρ≠r∧ρ≠e∧o ρ=none∧H ρ=some (.list (txs (nd x)))∧(nd x).length≤1000
theorem NAt.keep {o o':Addr→Option Role} {H H':Zaa} {r e:Addr} {nd:Str→List Str} {es:List (Str×AV)} {l:List Str} (h:NAt o H r e nd es l) (k:∀ ρ v,ρ≠r→ρ≠e→o ρ=none→H ρ=some (.list v)→o' ρ=none∧H' ρ=some (.list v)):NAt o' H' r e nd es l:=fun x hx=>by
 obtain ⟨ρ,h1,h2,h3,h4,h5,h6⟩:=h x hx;have:=k ρ _ h2 h3 h4 h5;exact ⟨ρ,h1,h2,h3,this.1,this.2,h6⟩
theorem Zt3 {es:List (Str×AV)} {k x:Str} {v:AV}:Zb8 (putS es k v) x=if x=k then some v else Zb8 es x:=by
 unfold putS;by_cases h:(Zb8 es k).isSome=true
 ·refine rl (if_pos h) ?_;unfold Zb8 at h ⊢
  induction es with
  | nil=>cases h
  | cons e r ih =>
   refine rl map_cons (rl (find?_cons) (rl (find?_cons) ?_));rw [find?_cons] at h;by_cases e1:e.1=k
   ·refine rl (if_pos e1) ?_;by_cases e2:x=k
    ·refine rl (show decide ((e.1,v).1=x)=true from decide_eq_true (e1.trans e2.symm)) (rl (if_pos e2) ?_);rfl
    ·have e3:e.1≠x:=fun z=>e2 (z.symm.trans e1);refine rl (show decide ((e.1,v).1=x)=false from decide_eq_false e3) (rl (if_neg e2) ?_);clear ih h;show Option.map _ (List.find? _ _)=Option.map _ (List.find? _ _);congr 1
     induction r with
     | nil=>rfl
     | cons a r ih =>
      refine rl map_cons (rl (find?_cons) (rl (find?_cons) ?_));by_cases a1:a.1=k
      ·refine rl (if_pos a1) ?_;have:a.1≠x:=fun z=>e2 (z.symm.trans a1);refine rl (show decide ((a.1,v).1=x)=false from decide_eq_false this) ?_;exact ih
      ·refine rl (if_neg a1) ?_;cases decide (a.1=x)
       ·exact ih
       ·rfl
   ·refine rl (if_neg e1) ?_;rw [show decide (e.1=k)=false from decide_eq_false e1] at h;by_cases e2:e.1=x
    ·exact rl (show decide (e.1=x)=true from decide_eq_true e2) (rl (if_neg (fun z=>e1 (e2.trans z))) rfl)
    ·refine rl (show decide (e.1=x)=false from decide_eq_false e2) ?_;exact ih h
 ·refine rl (if_neg h) ?_;have hn:Zb8 es k=none:=by cases q:Zb8 es k with | none=>rfl | some=>rw [q] at h;exact absurd rfl h
  clear h;unfold Zb8 at hn ⊢;rw [find?_append,map_eq_none_iff] at *;by_cases e2:x=k
  ·refine rl (if_pos e2) (rl e2 (rl hn ?_));simp
  ·refine rl (if_neg e2) ?_;cases List.find? (fun e=>decide (e.1=x)) es with
   | none=>simp [show ¬ k=x from fun z=>e2 z.symm]
   | some w=>rfl
inductive Zsg (B:Bk) (o:Addr→Option Role) (H:Zaa) (b f s p:Addr) (as:List Addr) (zv r d e:Addr) (m1 m2:Nat) (V':VV) (H':Zaa):Prop
 | mk (o':Addr→Option Role) (ep:Nat) (es:List (Str×AV)) (pr:Option AV) (hV:V'=[some (.ref b),some (.ref r),some (.ref d),some (.ref e),pr]) (ib:IsBook o' H' b f s p as B) (fr:Fr1 o H o' H') (hz:H' zv=some (.list (as.map .ref))) (hr:H' r=some (.list (txs (Zcs (B.pacts.take m1))))) (hd:H' d=some (.dict ep es)) (he:H' e=some (.list (txs (Zc6 (B.pacts.take m2)))))
   (zo:o' zv=none) (ro:o' r=none) (dO:o' d=none) (eo:o' e=none) (hl:es.length≤m1) (hn:NAt o' H' r e (ndB B) es (Zcs (B.pacts.take m1))):Zsg B o H b f s p as zv r d e m1 m2 V' H'
theorem IsBook.some {o:Addr→Option Role} {H:Zaa} {b f s p:Addr} {as:List Addr} {B:Bk} (ib:IsBook o H b f s p as B):∃ y,H b=Option.some y:=⟨_,ib.hb⟩
section
variable {c:Cx} {P:Pg} (G:Gd c P) (U:HasP P) {n:Nat} {md:Bool} {Q:AV→Zaa→Prop} {E:String→Zaa→Prop} {H:Zaa} {o:Addr→Option Role} {b f s p a:Addr} {as:List Addr} {B:Bk} {j:Nat} {x:Pc}
include G U
theorem Zlr (hU:P.fns.lookup "Book.standing" = some BK.f_Book_standing) (hU1:P.fns.lookup "Pact.is_full" = some BK.f_Pact_is_full) (ib:IsBook o H b f s p as B) (ok:BkOK B) (nd:(B.pacts.map (·.name)).Nodup)
  (q:∀ z r d e o' H',H z=none→o' z=none→o' r=none→o' d=none→o' e=none→H' z=some (.tuple [.ref r,.ref d,.ref e])→H' r=some (.list (txs (Zcs B.pacts)))→NeedsAt H' d (ndB B) (Zcs B.pacts)→H' e=some (.list (txs (Zc6 B.pacts)))→IsBook o' H' b f s p as B→Fr1 o H o' H'→Q (.ref z) H'):CallOK c (n+2) true "Book.standing" [.ref b] Q E H:=by
 refine G.call (F:=BK.f_Book_standing) hU rfl ?_;have hA:c.P.attrs=BK.attrs:=by exact rl G.hP (rl U.a.attrs rfl)
 have hM:c.P.meths=BK.meths:=by exact rl G.hP (rl U.a.meths rfl)
 show wpSs _ _ _ _ _ [some (.ref b),none,none,none,none] _;refine w_st fun K nx=>?_;intro r hr0;refine ⟨show 1<5 by decide,nx _ _ ?_⟩;obtain ⟨ib1,f1⟩:=ib.fresh hr0 (.list []);refine w_st fun K nx=>?_;intro d hd0;refine ⟨show 2<5 by decide,nx _ _ ?_⟩;obtain ⟨ib2,f2⟩:=ib1.fresh hd0 (.dict 0 []);refine w_st fun K nx=>?_;intro e he0;refine ⟨show 3<5 by decide,nx _ _ ?_⟩;obtain ⟨ib3,f3⟩:=ib2.fresh he0 (.list []);have hrd:r≠d:=Zgw hd0;have hde:d≠e:=Zgw he0;have hre:r≠e:=Zgw (by rw [Zab hde.symm] at he0;exact he0);have hd':H d=none:=Zdm hd0;have he':H e=none:=Zdm (Zdm he0);obtain ⟨r2,ro2⟩:=f2.old r _ Zac (if_pos rfl);obtain ⟨r3,ro3⟩:=f3.old r _ r2 ro2;obtain ⟨d3,do3⟩:=f3.old d _ Zac (if_pos rfl);have fr3:=(f1.trans f2).trans f3;obtain ⟨o3,H3,ib3,fr3,r3,d3,e3,ro3,do3,eo3⟩:∃ o3 H3,IsBook o3 H3 b f s p as B∧Fr1 o H o3 H3∧H3 r=some (.list [])∧H3 d=some (.dict 0 [])∧H3 e=some (.list [])∧o3 r=none∧o3 d=none∧o3 e=none∧H3=up (up (up H r (.list [])) d (.dict 0 [])) e (.list []):=⟨_,_,ib3,fr3,r3,d3,Zac,ro3,do3,if_pos rfl,rfl⟩
 obtain ⟨eo3,hH3⟩:=eo3;refine rl hH3.symm ?_;refine w_st fun K nx=>?_;refine ⟨rfl,?_⟩;refine Zhc hA rfl ib3 ok.len rfl fun zv o4 H4 hzv0 hzvo hzv ib4 f4=>?_;obtain ⟨r4,ro4⟩:=f4.old _ _ r3 ro3;obtain ⟨d4,do4⟩:=f4.old _ _ d3 do3;obtain ⟨e4,eo4⟩:=f4.old _ _ e3 eo3;obtain ⟨_,hlen⟩:=Zgk ib4.ps;have fr4:=fr3.trans f4;have hzr:zv≠r:=fun h=>by rw [h,r3] at hzv0;contradiction
 have hzd:zv≠d:=fun h=>by rw [h,d3] at hzv0;contradiction
 have hze:zv≠e:=fun h=>by rw [h,e3] at hzv0;contradiction
 clear hH3 f1 f2 f3 r2 ro2 ib1 ib2;refine Zdb (xs:=as.map .ref) (by simp only [Zal];exact rl hzv rfl) (fun m V' H'=>Zsg B o H b f s p as zv r d e m m V' H') ⟨o4,0,[],none,rfl,ib4,fr4,hzv,r4,d4,e4,hzvo,ro4,do4,eo4,le_refl _,fun x hx=>by contradiction⟩ ?_;rintro I hI m V' H' ⟨o',ep,es,pr,rfl,ib',fr',hz',hr',hdd',hee',zo',ro',do',eo',hl',hn'⟩;refine ⟨by show H' zv=_;exact rl hz' (rl hzv rfl),fun hm=>?_,fun y hy=>?_⟩
 ·rw [length_map,hlen] at hm;rw [hm,take_length] at hr' hee' hn';refine nx _ _ ?_;refine w_st fun K nx=>?_;intro z hz0;obtain ⟨ib5,f5⟩:=ib'.fresh hz0 (.tuple [.ref r,.ref d,.ref e]);obtain ⟨r5,ro5⟩:=f5.old _ _ hr' ro';obtain ⟨d5,do5⟩:=f5.old _ _ hdd' do';obtain ⟨e5,eo5⟩:=f5.old _ _ hee' eo';refine q z r d e _ _ (fr'.gr z hz0) (if_pos rfl) ro5 do5 eo5 Zac r5 ⟨ep,es,d5,fun x hx=>?_⟩ e5 ib5 (fr'.trans f5);obtain ⟨ρ,h1,_,_,h4,h5,h6⟩:=hn' x hx;exact ⟨ρ,h1,(f5.old _ _ h5 h4).1,h6⟩
 rw [getElem?_map,map_eq_some_iff] at hy;obtain ⟨a,ha,rfl⟩:=hy;obtain ⟨x,hx⟩:∃ x,B.pacts[m]? = some x:=⟨B.pacts[m]'(by refine rl hlen.symm ?_;exact (gsi ha).1),getElem?_eq_getElem _⟩
 have hin:=ok.inl m x hx;have hml:m<B.pacts.length:=(gsi hx).1;have hpl:=ok.len;have htk:B.pacts.take (m+1)=B.pacts.take m++[x]:=by refine rl take_add_one (rl hx ?_);rfl
 have hndx:ndB B x.name=x.needs:=by unfold ndB;exact rl (Zci nd hx) rfl
 refine ⟨show 4<5 by decide,?_⟩;refine w_st fun K2 nx2=>?_;show wpS _ _ _ _ _ [some (.ref b),some (.ref r),some (.ref d),some (.ref e),some (.ref a)] _;have second:∀ H1,Zsg B o H b f s p as zv r d e (m+1) m [some (.ref b),some (.ref r),some (.ref d),some (.ref e),some (.ref a)] H1→K2 [some (.ref b),some (.ref r),some (.ref d),some (.ref e),some (.ref a)] H1:=by
  rintro H1 ⟨o1,ep1,es1,pr1,hV1,ib1,fr1,hz1,hr1,hd1,he1,zo1,ro1,do1,eo1,hl1,hn1⟩;refine nx2 _ _ ?_;refine w_st fun K3 nx3=>?_;dsimp only [Zay,Zao];refine Zfm hA (ib1.pact hx ha) rfl ?_
  (dsimp only [Zai,Zcg,Zaj];refine rl Zuz ?_)
  have hdn:=Zgj (ps:=B.pacts.take m) (x:=x);cases hs:x.state==Sta.dn with
  | false =>
   rw [hs] at hdn;refine nx3 _ _ (hI _ _ _ ⟨o1,ep1,es1,_,rfl,ib1,fr1,hz1,hr1,hd1,?_,zo1,ro1,do1,eo1,hl1,hn1⟩);refine rl htk (rl hdn (rl he1 ?_));simp
  | true =>
   rw [hs] at hdn;refine w_st fun K4 nx4=>?_;refine ⟨?_,?_⟩
   ·show match H1 e with | some (.list _)=>_ | some (.dict _ _)=>_ | _=>False
    refine rl he1 ?_;exact .inl rfl
   dsimp only [Zae];refine Zjq hA (ib1.pact hx ha) rfl ?_;dsimp only [Zag];refine Zde he1 (by refine rl Zaf ?_;have:=Zid (ps:=B.pacts.take m);rw [length_take] at this;lia) (nx4 _ _ (nx3 _ _ (hI _ _ _ ⟨o1,ep1,es1,_,rfl,ib1.upN eo1 _,fr1.upF he',?_,?_,?_,?_,zo1,ro1,do1,eo1,hl1,hn1.keep fun ρ v h1 h2 h3 h4=>⟨h3,by refine rl (Zab h2) ?_;exact h4⟩⟩)))
   ·refine rl (Zab hze) ?_;exact hz1
   ·refine rl (Zab hre) ?_;exact hr1
   ·refine rl (Zab hde) ?_;exact hd1
   ·refine rl Zac (rl htk (rl hdn (rl Zd7 ?_)));rfl
 have hfu:=Zow (ps:=B.pacts.take m) (x:=x);dsimp only [Zay];refine Zp8 hA (ib'.pact hx ha) rfl hM (by decide) (by decide) ?_;refine Zot G hU1 hA (ib'.pact hx ha) hin.1 hin.2.1 ?_;cases hs:Zgx x with
 | false =>
  rw [hs] at hfu;refine second H' ⟨o',ep,es,_,rfl,ib',fr',hz',?_,hdd',hee',zo',ro',do',eo',Nat.le_succ_of_le hl',?_⟩
  ·refine rl htk (rl hfu (rl hr' ?_));simp
  ·refine rl htk (rl hfu ?_);simpa using hn'
 | true =>
 rw [hs] at hfu;refine w_st fun K3 nx3=>?_;refine ⟨?_,?_⟩
 ·show match H' r with | some (.list _)=>_ | some (.dict _ _)=>_ | _=>False
  refine rl hr' ?_;exact .inl rfl
 dsimp only [Zae];refine Zjq hA (ib'.pact hx ha) rfl ?_;dsimp only [Zag];refine Zde hr' (by refine rl Zaf ?_;have:=Zk4 (ps:=B.pacts.take m);rw [length_take] at this;lia) (nx3 _ _ ?_);have ib5:=ib'.upN ro' (.list (txs (Zcs (B.pacts.take m))++[.str x.name]));have fr5:Fr1 o H o' (up H' r (.list (txs (Zcs (B.pacts.take m))++[.str x.name]))):=fr'.upF hr0;have n5:=hn'.keep (H':=up H' r (.list (txs (Zcs (B.pacts.take m))++[.str x.name]))) fun ρ v h1 h2 h3 h4=>⟨h3,by refine rl (Zab h1) ?_;exact h4⟩
 have z5:up H' r (.list (txs (Zcs (B.pacts.take m))++[.str x.name])) zv=some (.list (as.map .ref)):=by refine rl (Zab hzr) ?_;exact hz'
 have d5:up H' r (.list (txs (Zcs (B.pacts.take m))++[.str x.name])) d=some (.dict ep es):=by refine rl (Zab hrd.symm) ?_;exact hdd'
 have e5:up H' r (.list (txs (Zcs (B.pacts.take m))++[.str x.name])) e=some (.list (txs (Zc6 (B.pacts.take m)))):=by refine rl (Zab hre.symm) ?_;exact hee'
 have r5:up H' r (.list (txs (Zcs (B.pacts.take m))++[.str x.name])) r=some (.list (txs (Zcs (B.pacts.take m))++[.str x.name])):=Zac;generalize up H' r (.list (txs (Zcs (B.pacts.take m))++[.str x.name]))=H5 at ib5 fr5 n5 z5 d5 e5 r5;refine w_st fun K4 nx4=>?_;dsimp only [Zam,Zak,Zae];refine Zm8 hA (ib5.pact hx ha) rfl fun zn _ hzn=>?_;dsimp only [Zag];refine Zf9 hzn (le_trans hin.2.2.2 (by decide)) fun ρ hρ=>?_;obtain ⟨ib6,f6⟩:=ib5.fresh hρ (.list (txs x.needs));have fr6:=fr5.trans f6;obtain ⟨z6,zo6⟩:=f6.old _ _ z5 zo';obtain ⟨d6,do6⟩:=f6.old _ _ d5 do';obtain ⟨e6,eo6⟩:=f6.old _ _ e5 eo';obtain ⟨r6,ro6⟩:=f6.old _ _ r5 ro';dsimp only [tsub,Zad];show wpX _ (.attr (.var 4) "name") _ _ _ _;refine Zjq hA (ib6.pact hx ha) rfl ?_;show match up H5 ρ (.list (txs x.needs)) d with | some (.dict _ _)=>_ | _=>False
 refine rl d6 ?_;have hρr:ρ≠r:=fun h=>by rw [h,r5] at hρ;cases hρ
 have hρe:ρ≠e:=fun h=>by rw [h,e5] at hρ;cases hρ
 have hρd:ρ≠d:=fun h=>by rw [h,d5] at hρ;cases hρ
 refine ⟨le_trans (show es.length≤1000 by lia) (by decide),fun ep'=>nx4 _ _ (second _ ⟨_,ep',putS es x.name (.ref ρ),_,rfl,ib6.upN do6 _,fr6.upF hd',?_,?_,Zac,?_,zo6,ro6,do6,eo6,?_,?_⟩)⟩
 ·refine rl (Zab hzd) ?_;exact z6
 ·refine rl (Zab hrd) (rl r6 (rl htk (rl hfu (rl Zd7 ?_))));rfl
 ·refine rl (Zab hde.symm) ?_;exact e6
 ·have:=Zpz (es:=es) (k:=x.name) (v:=.ref ρ);lia
 ·intro y hy;refine rl Zt3 ?_;by_cases hyx:y=x.name
  ·refine rl (if_pos hyx) ?_;refine ⟨ρ,rfl,hρr,hρe,if_pos rfl,?_,?_⟩
   ·exact rl (Zab hρd) (rl Zac (rl hyx (rl hndx rfl)))
   ·refine rl hyx (rl hndx ?_);exact le_trans hin.2.2.2 (by decide)
  ·refine rl (if_neg hyx) ?_;rw [htk,hfu] at hy;have hy':y∈Zcs (B.pacts.take m):=by
    rcases mem_append.mp hy with h | h
    ·exact h
    ·exact absurd (mem_singleton.mp h) hyx
   obtain ⟨ρ',h1,h2,h3,h4,h5,h6⟩:=n5 y hy';obtain ⟨h7,h8⟩:=f6.old _ _ h5 h4;refine ⟨ρ',h1,h2,h3,h8,?_,h6⟩;refine rl (Zab (fun z=>by rw [z,d6] at h7;cases h7)) ?_;exact h7
end
end Mine
end
section
namespace Mine
section
variable {o:Addr→Option Role} {H:Zaa} {b f s p a:Addr} {as:List Addr} {B:Bk} {j:Nat} {x:Pc} {Q:AV→Zaa→Prop} {E:String→Zaa→Prop}
noncomputable def payAll:List (Str×Int)→Bk→Bk
 | [],B=>B
 | e::l,B=>payAll l { B with aside:=pt B.aside e.1 ((lk B.aside e.1).getD 0 - e.2) }
theorem Zho {e:Str×Int}:∀ {l:List (Str×Int)} {B:Bk},payAll (l++[e]) B = { payAll l B with aside:=pt (payAll l B).aside e.1 ((lk (payAll l B).aside e.1).getD 0 - e.2) }
 | [],B=>rfl
 | _::l,B=>Zho (l:=l)
theorem SameB.payAll:∀ {l:List (Str×Int)} {B:Bk},(∀ e∈l,hs B.aside e.1=true)→SameB B (Mine.payAll l B)∧(Mine.payAll l B).pacts=B.pacts
 | [],B,_=>⟨.refl,rfl⟩
 | e::l,B,h=>by
  have h0:=h e mem_cons_self;have s1:SameB B { B with aside:=pt B.aside e.1 ((lk B.aside e.1).getD 0 - e.2) }:=⟨rfl,rfl,(Zel h0).1,fun _=>rfl,(Zel h0).2⟩
  obtain ⟨s2,p2⟩:=SameB.payAll (l:=l) (B:={ B with aside:=pt B.aside e.1 ((lk B.aside e.1).getD 0 - e.2) }) fun e' he=>by refine rl (s1.ah ..) ?_;exact h e' (mem_cons_of_mem _ he)
  exact ⟨s1.trans s2,p2⟩
theorem Zly {g:Gx} {V:VV} {QN:VV→Zaa→Prop} {QR:AV→Zaa→Prop} {EE:String→VV→Zaa→Prop} {v1 v2 v3 v5:Option AV} (hA:g.c.P.attrs=BK.attrs) (hmd:g.md=true) (ib:IsBook o H b f s p as B) (hj:B.pacts[j]? = some x) (ha:as[j]? = some a) (hV:V=[some (.ref b),v1,v2,v3,some (.ref a),v5]) (hz:B.aside.length≤sizeLine) (able:∀ e∈x.parts,hs B.aside e.1=true)
  (q:∀ H' v5',IsBook o H' b f s p as (payAll x.parts B)→Fr1 o H o H'→KD o H H'→QN [some (.ref b),v1,v2,v3,some (.ref a),v5'] H') :
  wpS g (.for (.var 5) (.attr (.var 4) "parts") [.assign (.sub (.attr (.var 0) "aside") (.sub (.var 5) (.lit (.int 0)))) (.bin .Sub (.sub (.attr (.var 0) "aside") (.sub (.var 5) (.lit (.int 0)))) (.sub (.var 5) (.lit (.int 1))))]) QN QR EE V H:=by
 subst hV;refine rl Zb3 ?_;refine ⟨hmd,?_⟩;refine Zfn hA (ib.pact hj ha) rfl fun z ⟨hzd,ts,hts,hl⟩=>?_;refine Zdb (xs:=ts.map .ref) (by simp only [Zal];rw [hts]) (fun m V' H'=>(∃ pr,V'=[some (.ref b),v1,v2,v3,some (.ref a),pr])∧IsBook o H' b f s p as (payAll (x.parts.take m) B)∧Fr1 o H o H'∧KD o H H') ⟨⟨_,rfl⟩,by rw [take_zero];exact ib,.refl,fun _ _=>rfl⟩ ?_;rintro I hI m V' H' ⟨⟨pr,rfl⟩,ib',fr',kd'⟩;obtain ⟨sm,hp⟩:=SameB.payAll (l:=x.parts.take m) (B:=B) fun e he=>able e (mem_of_mem_take he);refine ⟨kd' z hzd,fun hlen=>?_,fun y hy=>?_⟩
 ·rw [hlen,length_map,Zdo hl,take_length] at ib';exact q H' pr ib' fr' kd'
 rw [getElem?_map,map_eq_some_iff] at hy;obtain ⟨t,ht,rfl⟩:=hy;obtain ⟨e,he,htd,htt⟩:=Zd0 hl ht;have htt':H' t=some (.tuple [.str e.1,.int e.2]):=by refine rl (kd' t htd) ?_;exact htt
 have hsplit:x.parts.take (m+1)=x.parts.take m++[e]:=by refine rl take_add_one (rl he ?_);rfl
 refine ⟨show 5<6 by decide,?_⟩;refine w_st fun K nx=>?_;show wpS _ _ _ _ _ [some (.ref b),v1,v2,v3,some (.ref a),some (.ref t)] _;refine rl Zam (rl Zar (rl Zav ?_));refine Zeg hA ib' rfl ?_;refine rl Zav (rl Zad ?_);show wpX _ (.lit (.int 0)) _ _ _ _;refine rl Zai ?_;refine Zjp htt' ?_;have hab:hs (payAll (x.parts.take m) B).aside e.1=true:=by refine rl (sm.ah ..) ?_;exact able e (mem_of_getElem? he)
 refine Zfi ib' (Zfv hab) ?_;refine rl Zav (rl Zad ?_);show wpX _ (.lit (.int 1)) _ _ _ _;refine rl Zai ?_;refine Ztj htt' ?_;refine rl Zdh (rl tsub ?_);refine Zeg hA ib' rfl ?_;refine rl Zav (rl Zad ?_);show wpX _ (.lit (.int 0)) _ _ _ _;refine rl Zai ?_;refine Zjp htt' ?_;obtain ⟨ep,hd⟩:=ib'.hs;show match H' s with | some (.dict _ _)=>_ | _=>False
 refine rl hd ?_;refine ⟨by refine rl Zgv (rl sm.al ?_);exact hz,fun ep'=>nx _ _ (hI _ _ _ ⟨⟨_,rfl⟩,?_,fr'.trans (Zj6 (by refine rl ib'.os ?_;simp)),kd'.trans (KD.up ib'.os (by intro h;contradiction))⟩)⟩;refine rl Zhn (rl hsplit (rl Zho ?_));exact ib'.setAside ep' _
noncomputable def gainAll:List (Str×Int)→Bk→Bk
 | [],B=>B
 | e::l,B=>gainAll l { B with free:=pt B.free e.1 ((lk B.free e.1).getD 0+e.2) }
theorem Zgu {e:Str×Int}:∀ {l:List (Str×Int)} {B:Bk},gainAll (l++[e]) B = { gainAll l B with free:=pt (gainAll l B).free e.1 ((lk (gainAll l B).free e.1).getD 0+e.2) }
 | [],B=>rfl
 | _::l,B=>Zgu (l:=l)
theorem SameB.gainAll:∀ {l:List (Str×Int)} {B:Bk},(∀ e∈l,hs B.free e.1=true)→SameB B (Mine.gainAll l B)∧(Mine.gainAll l B).pacts=B.pacts
 | [],B,_=>⟨.refl,rfl⟩
 | e::l,B,h=>by
  have h0:=h e mem_cons_self;have s1:SameB B { B with free:=pt B.free e.1 ((lk B.free e.1).getD 0+e.2) }:=⟨rfl,(Zel h0).1,rfl,(Zel h0).2,fun _=>rfl⟩
  obtain ⟨s2,p2⟩:=SameB.gainAll (l:=l) (B:={ B with free:=pt B.free e.1 ((lk B.free e.1).getD 0+e.2) }) fun e' he=>by refine rl (s1.fh ..) ?_;exact h e' (mem_cons_of_mem _ he)
  exact ⟨s1.trans s2,p2⟩
theorem Zk3 {g:Gx} {V:VV} {QN:VV→Zaa→Prop} {QR:AV→Zaa→Prop} {EE:String→VV→Zaa→Prop} {v1 v2 v3 v5:Option AV} (hA:g.c.P.attrs=BK.attrs) (hmd:g.md=true) (ib:IsBook o H b f s p as B) (hj:B.pacts[j]? = some x) (ha:as[j]? = some a) (hV:V=[some (.ref b),v1,v2,v3,some (.ref a),v5]) (hz:B.free.length≤sizeLine) (able:∀ e∈x.gains,hs B.free e.1=true)
  (q:∀ H' v5',IsBook o H' b f s p as (gainAll x.gains B)→Fr1 o H o H'→KD o H H'→QN [some (.ref b),v1,v2,v3,some (.ref a),v5'] H') :
  wpS g (.for (.var 5) (.attr (.var 4) "gains") [.assign (.sub (.attr (.var 0) "free") (.sub (.var 5) (.lit (.int 0)))) (.bin .Add (.sub (.attr (.var 0) "free") (.sub (.var 5) (.lit (.int 0)))) (.sub (.var 5) (.lit (.int 1))))]) QN QR EE V H:=by
 subst hV;refine rl Zb3 ?_;refine ⟨hmd,?_⟩;refine Ztl hA (ib.pact hj ha) rfl fun z ⟨hzd,ts,hts,hl⟩=>?_;refine Zdb (xs:=ts.map .ref) (by simp only [Zal];rw [hts]) (fun m V' H'=>(∃ pr,V'=[some (.ref b),v1,v2,v3,some (.ref a),pr])∧IsBook o H' b f s p as (gainAll (x.gains.take m) B)∧Fr1 o H o H'∧KD o H H') ⟨⟨_,rfl⟩,by rw [take_zero];exact ib,.refl,fun _ _=>rfl⟩ ?_;rintro I hI m V' H' ⟨⟨pr,rfl⟩,ib',fr',kd'⟩;obtain ⟨sm,hp⟩:=SameB.gainAll (l:=x.gains.take m) (B:=B) fun e he=>able e (mem_of_mem_take he);refine ⟨kd' z hzd,fun hlen=>?_,fun y hy=>?_⟩
 ·rw [hlen,length_map,Zdo hl,take_length] at ib';exact q H' pr ib' fr' kd'
 rw [getElem?_map,map_eq_some_iff] at hy;obtain ⟨t,ht,rfl⟩:=hy;obtain ⟨e,he,htd,htt⟩:=Zd0 hl ht;have htt':H' t=some (.tuple [.str e.1,.int e.2]):=by refine rl (kd' t htd) ?_;exact htt
 have hsplit:x.gains.take (m+1)=x.gains.take m++[e]:=by refine rl take_add_one (rl he ?_);rfl
 refine ⟨show 5<6 by decide,?_⟩;refine w_st fun K nx=>?_;show wpS _ _ _ _ _ [some (.ref b),v1,v2,v3,some (.ref a),some (.ref t)] _;refine rl Zam (rl Zar (rl Zav ?_));refine Zc8 hA ib' rfl ?_;refine rl Zav (rl Zad ?_);show wpX _ (.lit (.int 0)) _ _ _ _;refine rl Zai ?_;refine Zjp htt' ?_;have hab:hs (gainAll (x.gains.take m) B).free e.1=true:=by refine rl (sm.fh ..) ?_;exact able e (mem_of_getElem? he)
 refine Zet ib' (Zfv hab) ?_;refine rl Zav (rl Zad ?_);show wpX _ (.lit (.int 1)) _ _ _ _;refine rl Zai ?_;refine Ztj htt' ?_;refine rl Zcv (rl tsub ?_);refine Zc8 hA ib' rfl ?_;refine rl Zav (rl Zad ?_);show wpX _ (.lit (.int 0)) _ _ _ _;refine rl Zai ?_;refine Zjp htt' ?_;obtain ⟨ep,hd⟩:=ib'.hf;show match H' f with | some (.dict _ _)=>_ | _=>False
 refine rl hd ?_;refine ⟨by refine rl Zgv (rl sm.fl ?_);exact hz,fun ep'=>nx _ _ (hI _ _ _ ⟨⟨_,rfl⟩,?_,fr'.trans (Zj6 (by refine rl ib'.of ?_;simp)),kd'.trans (KD.up ib'.of (by intro h;contradiction))⟩)⟩;refine rl Zhn (rl hsplit (rl Zgu ?_));exact ib'.setFree ep' _
theorem Zui {g:Gx} {V:VV} {QN:VV→Zaa→Prop} {QR:AV→Zaa→Prop} {EE:String→VV→Zaa→Prop} {i:Nat} {st:Sta} {rest:List S} (hA:g.c.P.attrs=BK.attrs) (ib:IsBook o H b f s p as B) (hj:B.pacts[j]? = some x) (ha:as[j]? = some a) (hV:V[i]? = some (some (.ref a)))
  (q:∀ o' H',IsBook o' H' b f s p as { B with pacts:=B.pacts.set j { x with inside:=[],state:=st } }→Fr1 o H o' H'→wpSs g rest QN QR EE V H'):wpSs g (.assign (.attr (.var i) "inside") (.dict [] [])::.assign (.attr (.var i) "state") (.lit (.str st.str))::rest) QN QR EE V H:=by
 have hC:∀ n,BK.attrs.contains ("Pact",n)=true→g.c.P.attrs.contains ("Pact",n)=true:=fun n h=>by refine rl hA ?_;exact h
 obtain ⟨h0,pa,ga,ne,ins,ep,h,h1,h2,h3,h4,h5,h6⟩:=ib.pact hj ha;refine w_st fun K nx=>?_;dsimp only [Zam,Zas];intro w hw;have haw:a≠w:=fun e=>by rw [e,hw] at h;contradiction
 refine st_a hV (hC _ rfl) (by refine rl (Zab haw) ?_;exact h) (by exact (show 7≤100 by decide)) (nx _ _ ?_);refine w_st fun K nx=>?_;dsimp only [Zam,Zai];refine st_a hV (hC _ rfl) Zac (by exact (show 7≤100 by decide)) (nx _ _ ?_);have kb0:KB (fun _=>True) o (fun y=>if y=w then some (.inside j) else o y) H (up H w (.dict 0 [])):=fun y r v _ hr hv _=>by
  have:y≠w:=fun e=>by rw [e,hw] at hv;contradiction
  exact ⟨(if_neg this).trans hr,by refine rl (Zab this) ?_;exact hv⟩
 have ib1:=ib.congr kb0;generalize ho:(fun y=>if y=w then some (Role.inside j) else o y)=o' at kb0 ib1;have hoa:o' a=some (.pact j):=by refine rl ho.symm ?_;exact (if_neg haw).trans h0
 have how:o' w=some (.inside j):=by refine rl ho.symm ?_;exact if_pos rfl
 have kb1:∀ {X:Zaa} {y:AObj},KB (fun r=>r≠.pact j∧r≠.inside j) o' o' X (up X a y):=Zjv fun r hr=>by rw [hoa] at hr;obtain rfl:=osi hr;exact fun z=>z.1 rfl
 have kbd:∀ {X:Zaa} {y:AObj},KB (fun r=>r = .data) o' o' X (up X a y):=Zjv fun r hr=>by rw [hoa] at hr;cases hr;exact fun z=>by cases z
 have kb0':KB (fun r=>r = .data) o o' H (up H w (.dict 0 [])):=fun y r v _ hr hv hb=>kb0 y r v trivial hr hv hb;refine q o' _ (ib1.setPact hj ha (fun y r v hr ho hv hb=>kb1 y r v hr ho (kb1 y r v hr ho hv hb).2 hb) (⟨hoa,pa,ga,ne,w,0,Zac,((h1.congr kb0' rfl).congr kbd rfl).congr kbd rfl,((h2.congr kb0' rfl).congr kbd rfl).congr kbd rfl,(kb0' ne _ _ rfl h3 h4 rfl).1,?_,how,?_⟩:IsPact o' _ j a { x with inside:=[],state:=st }) rfl) ⟨fun y v hy ho'=>?_,fun y h=>Zdm (Zdm (Zdm h))⟩
 ·have:=kb0' ne _ _ rfl h3 h4 rfl;have hna:ne≠a:=Zcb this.1 hoa (by intro z;contradiction);refine rl (Zab hna) (rl (Zab hna) ?_);exact this.2
 ·refine rl (Zab haw.symm) (rl (Zab haw.symm) (rl Zac ?_));rfl
 ·have hyw:y≠w:=fun e=>by rw [e,hw] at hy;contradiction
  have hya:y≠a:=fun e=>by rw [e,h0] at ho';contradiction
  exact ⟨by refine rl (Zab hya) (rl (Zab hya) (rl (Zab hyw) ?_));exact hy,by refine rl ho.symm ?_;exact (if_neg hyw).trans ho'⟩
end
noncomputable def Zrr (B:Bk) (j:Nat) (x:Pc):Bk:={ gainAll x.gains (payAll x.parts B) with pacts:=B.pacts.set j { x with inside:=[],state:=.dn } }
noncomputable def Zdw:List Str→Bk→Bk
 | [],B=>B
 | k::r,B=>Zdw r (match pAt B.pacts k with | some e=>Zrr B e.1 e.2 | none=>B)
theorem Zh1:∀ {ps:List Pc} {j:Nat} {x x':Pc},ps[j]? = some x→x'.name=x.name→(ps.set j x').map (·.name)=ps.map (·.name)
 | q::r,0,x,x',h,e=>by obtain rfl:=osi h;simp [e]
 | q::r,j+1,x,x',h,e=>by exact rl set_cons_succ (rl map_cons (rl map_cons (rl (Zh1 (ps:=r) (j:=j) h e) rfl)))
 | [],_,_,_,h,_=>by contradiction
theorem Zga:∀ {ps:List Pc} {k:Str},k∈ps.map (·.name)→∃ e,pAt ps k=some e
 | q::r,k,h=>by
  unfold pAt;by_cases e:q.name=k
  ·exact ⟨_,if_pos e⟩
  ·refine rl (if_neg e) ?_;rw [map_cons] at h;obtain ⟨w,hw⟩:=Zga (ps:=r) ((mem_cons.mp h).resolve_left fun z=>e z.symm);refine rl hw ?_;exact ⟨_,rfl⟩
theorem BkOK.ends {B:Bk} {j:Nat} {x:Pc} (ok:BkOK B) (hj:B.pacts[j]? = some x):SameB B (gainAll x.gains (payAll x.parts B))∧(gainAll x.gains (payAll x.parts B)).pacts=B.pacts∧SameB B (payAll x.parts B)∧(payAll x.parts B).pacts=B.pacts:=by
 obtain ⟨s1,p1⟩:=SameB.payAll (l:=x.parts) (B:=B) fun e he=>ok.both _ (ok.purse j x hj e (.inl he));obtain ⟨s2,p2⟩:=SameB.gainAll (l:=x.gains) (B:=payAll x.parts B) fun e he=>by refine rl (s1.fh ..) ?_;exact ok.purse j x hj e (.inr he)
 exact ⟨s1.trans s2,p2.trans p1,s1,p1⟩
theorem BkOK.done {B:Bk} {j:Nat} {x:Pc} (ok:BkOK B) (hj:B.pacts[j]? = some x):BkOK (Zrr B j x):=by
 obtain ⟨sm,_⟩:=ok.ends hj;refine ok.keep ⟨sm.day,sm.fl,sm.al,sm.fh,sm.ah⟩ length_set (fun m y hy=>?_) fun m y hy=>?_
 ·rcases Zhm hy with ⟨rfl,rfl,_⟩ | ⟨_,h⟩
  ·exact ⟨x,hj,rfl,rfl,rfl,fun k hk=>by contradiction⟩
  ·exact ⟨y,h,rfl,rfl,rfl,ok.part m y h⟩
 ·rcases Zhm hy with ⟨rfl,rfl,_⟩ | ⟨_,h⟩
  ·exact zero_le _
  ·exact (ok.inl m y h).1
inductive SetI (B:Bk) (o:Addr→Option Role) (H:Zaa) (b f s p:Addr) (as:List Addr) (g:List Str) (v1:Option AV) (z:Addr) (m:Nat) (V':VV) (H':Zaa):Prop
 | mk (o':Addr→Option Role) (B':Bk) (p3 p4 p5:Option AV) (hV:V'=[some (.ref b),v1,some (.ref z),p3,p4,p5]) (ib:IsBook o' H' b f s p as B') (ok:BkOK B') (fr:Fr1 o H o' H') (hz:H' z=some (.list (txs g))) (zo:o' z=none) (hn:B'.pacts.map (·.name)=B.pacts.map (·.name)) (hR:Zdw (g.drop m) B'=Zdw g B):SetI B o H b f s p as g v1 z m V' H'
section
variable {c:Cx} {P:Pg} (G:Gd c P) (U:HasP P) {n:Nat} {md:Bool} {Q:AV→Zaa→Prop} {E:String→Zaa→Prop} {H:Zaa} {o:Addr→Option Role} {b f s p a:Addr} {as:List Addr} {B:Bk} {j:Nat} {x:Pc}
theorem IsBook.extZ {H':Zaa} {z:Addr} (ib:IsBook o H b f s p as B) (hE:Ext H H') (hz:H z=none):∃ o',IsBook o' H' b f s p as B∧Fr1 o H o' H'∧o' z=none :=
 ⟨fun a=>if a=z then none else o a,ib.congr fun a r v _ hr hv _=>⟨(if_neg (fun e=>by rw [e,hz] at hv;contradiction)).trans hr,hE a v hv⟩,⟨fun a v h k=>⟨hE a v h,(if_neg (fun e=>by rw [e,hz] at h;contradiction)).trans k⟩,fun a h=>hE.none h⟩,if_pos rfl⟩
include G U
set_option tactic.hygienic true in
theorem Zpo (hU:P.fns.lookup "Book.settle" = some BK.f_Book_settle) (hU0:P.fns.lookup "Book.standing" = some BK.f_Book_standing) (hU1:P.fns.lookup "Pact.is_full" = some BK.f_Pact_is_full) (g1:P.fns.lookup "greatest" = some BK.f_greatest) (g2:P.fns.lookup "are_met" = some BK.f_are_met) (g3:P.fns.lookup "table_of" = some BK.f_table_of)
  (ib:IsBook o H b f s p as B) (ok:BkOK B) (nd:(B.pacts.map (·.name)).Nodup)
  (q:∀ z g o' H',H z=none→o' z=none→H' z=some (.list (txs g))→Grt (Zcs B.pacts) (ndB B) (Zc6 B.pacts) g→IsBook o' H' b f s p as (Zdw g B)→Fr1 o H o' H'→Q (.ref z) H'):CallOK c (n+3) true "Book.settle" [.ref b] Q E H:=by
 refine G.call (F:=BK.f_Book_settle) hU rfl ?_;have hA:c.P.attrs=BK.attrs:=by exact rl G.hP (rl U.a.attrs rfl)
 have hM:c.P.meths=BK.meths:=by exact rl G.hP (rl U.a.meths rfl)
 refine w_st fun K nx=>?_;dsimp only [Zam];refine Zbw hM (by decide) (by decide) ib rfl ?_;refine Zlr G U hU0 hU1 ib ok nd fun zt r d e o1 H1 hzt zto ro dO eo ht hr hd he ib1 f1=>?_;refine ⟨show 1<6 by decide,nx _ _ ?_⟩;refine w_st fun K nx=>?_;show wpS _ _ _ _ _ [some (.ref b),some (.ref zt),none,none,none,none] _;dsimp only [Zam,tv,length_cons,length_nil,Nat.reduceAdd,set_cons_succ,set_cons_zero,Zan,Zae,Zag,Zav,Zai,Zad,getElem?_cons_succ,v_0];refine Ze5 (v:=.ref r) ht (by decide) rfl (by simp) ?_;refine Ze5 (v:=.ref d) ht (by decide) rfl (by simp) ?_;refine Ze5 (v:=.ref e) ht (by decide) rfl (by simp) ?_;have lp:=ok.len;refine Zmf G g1 g2 g3 hr hd he (le_trans Zk4 (by exact le_trans (by assumption) (by decide))) (le_trans Zid (by exact le_trans (by assumption) (by decide))) fun z H2 g hE hz0 hz2 hg=>?_;obtain ⟨o2,ib2,f2,zo2⟩:=ib1.extZ hE hz0;have fr2:=f1.trans f2;have hgn:∀ k∈g,k∈B.pacts.map (·.name):=fun k hk=>by
  have:=hg.sub.subset hk;unfold Zcs at this;obtain ⟨y,h1,h2⟩:=mem_map.mp this;refine rl h2.symm ?_;exact mem_map_of_mem (mem_filter.mp h1).1
 refine ⟨by decide,nx _ _ ?_⟩;refine w_st fun K nx=>?_;dsimp only [Zb3,Zad];refine ⟨rfl,?_⟩;show WFor _ _ (.ref z) _ _;refine Zdb (xs:=txs g) (by simp only [Zal];exact rl hz2 rfl) (SetI B o H b f s p as g (some (.ref zt)) z) ⟨o2,B,none,none,none,rfl,ib2,ok,fr2,hz2,zo2,rfl,rfl⟩ ?_;rintro I hI m V' H' ⟨o',B',p3,p4,p5,rfl,ib',ok',fr',hz',zo',hn',hR'⟩;refine ⟨by show H' z=_;exact rl hz' (rl hz2 rfl),fun hm=>?_,fun y hy=>?_⟩
 ·rw [Zaf] at hm;rw [hm,drop_length] at hR';exact nx _ _ (q z g o' H' (f1.gr z hz0) zo' hz' hg (hR'▸ib') fr')
 obtain ⟨k,rfl,hk⟩:=Zjf hy;have hdrop:g.drop m=k::g.drop (m+1):=by
  obtain ⟨hlt,hee⟩:=gsi hk;refine rl hee.symm ?_;exact List.drop_eq_getElem_cons hlt
 obtain ⟨w,hw⟩:=Zga (ps:=B'.pacts) (k:=k) (by refine rl hn' ?_;exact hgn k (mem_of_getElem? hk));obtain ⟨j,x⟩:=w;have hj:=(Zbi hw).1;rw [hdrop,Zdw,hw] at hR';obtain ⟨a,ha,_⟩:=Zcy ib'.ps hj;obtain ⟨s2,q2,s1,q1⟩:=ok'.ends hj;refine ⟨show 3<6 by decide,?_⟩;refine w_st fun K2 nx2=>?_;dsimp only [Zam,Zav];refine Zc0 hA ib' rfl ?_;refine Zfh ib' hw fun a' ha' _=>?_;rw [ha] at ha';obtain rfl:=osi ha';refine ⟨show 4<6 by decide,nx2 _ _ ?_⟩;refine w_st fun K2 nx2=>?_;refine Zly hA rfl ib' hj ha rfl ok'.sz.2 (fun e he=>ok'.both _ (ok'.purse j x hj e (.inl he))) fun H3 v5 ib3 f3 _=>nx2 _ _ ?_;refine w_st fun K2 nx2=>?_;refine Zk3 hA rfl ib3 (by refine rl (q1 ..) ?_;exact hj) ha rfl (by refine rl (s1.fl ..) ?_;exact ok'.sz.1) (fun e he=>by refine rl (s1.fh ..) ?_;exact ok'.purse j x hj e (.inr he)) fun H4 v5' ib4 f4 _=>nx2 _ _ ?_;refine Zui (i:=4) (st:=.dn) hA ib4 (by refine rl q2 ?_;exact hj) ha rfl fun o5 H5 ib5 f5=>?_;rw [q2] at ib5;have f35:=(f3.trans f4).trans f5;obtain ⟨hz5,zo5⟩:=f35.old _ _ hz' zo';exact hI _ _ _ ⟨o5,Zrr B' j x,_,_,_,rfl,ib5,ok'.done hj,fr'.trans f35,hz5,zo5,(Zh1 (x':={ x with inside:=[],state:=.dn }) hj rfl).trans hn',hR'⟩
end
end Mine
end
section
namespace Mine
abbrev pairsH (H:Zaa) (ts:List Addr) (l:List (AV×AV)):Prop:=pairsG (fun _=>none) H ts l
theorem pairsH.in {o:Addr→Option Role} {H H₂:Zaa} {b:Addr} {B:Bk} (hb:H b=some (.book B)) (hold:∀ a x,H a=some x→a≠b→H₂ a=some x∧o a=none):∀ {ts:List Addr} {l:List (AV×AV)},pairsH H ts l→pairsG o H₂ ts l
 | [],[],_=>trivial
 | t::ts,e::l,h=>by
  have hne:t≠b:=fun z=>by have:=h.1.2.1;rw [z,hb] at this;cases this
  exact ⟨⟨(hold t _ h.1.2.1 hne).2,(hold t _ h.1.2.1 hne).1,h.1.2.2⟩,pairsH.in hb hold h.2⟩
 | [],_::_,h=>h.elim
 | _::_,[],h=>h.elim
section
variable {c:Cx} {P:Pg} (G:Gd c P) (U:HasP P) {n:Nat} {md:Bool} {Q:AV→Zaa→Prop} {E:String→Zaa→Prop} {H:Zaa} {b:Addr} {B:Bk}
theorem Zl9 {a:Addr} {xs:List AV} (hb:H b=some (.book B)) (h:H a=some (.list xs)):a≠b:=fun z=>by rw [z,hb] at h;cases h
include G U
theorem Zsb {v w:AV} (hU:P.fns.lookup "Book.set_aside" = some BK.f_Book_set_aside) (hU2:P.fns.lookup "Pact.part_of" = some BK.f_Pact_part_of) (hb:H b=some (.book B)) (kv:Kn H v) (kw:Kn H w) (ok:BkOK B) (q:Ends (Zf3 B v w) (fun B'=>Q .none (up H b (.book B'))) (fun cl=>E cl H)):CallOK c (n+4) true "Book.set_aside" [.ref b,v,w] Q E H:=by
 refine Zb6 hb fun H₂ o f s p as ib hold=>Zsa G U hU hU2 ib (kv.open hb hold) (kw.open hb hold) ok ?_;revert q;cases Zf3 B v w with
 | ok B'=>exact fun q H' ib' fr=>⟨o,f,s,p,as,B',ib',fr,.inl ⟨(fun _ h=>by contradiction),q⟩⟩
 | error cl=>exact fun q=>⟨o,f,s,p,as,B,ib,.refl,by refine rl (Ze4 hb) ?_;exact q⟩
theorem Zxx {v last:AV} {pl gl nl:Addr} {ts us:List Addr} {pL gL:List (AV×AV)} {nL:List AV} (hU:P.fns.lookup "Book.tell" = some BK.f_Book_tell) (hU1:P.fns.lookup "Book.pairs_of" = some BK.f_Book_pairs_of) (hU2:P.fns.lookup "Book.needs_of" = some BK.f_Book_needs_of) (hU3:P.fns.lookup "Pact.__init__" = some BK.f_Pact___init__) (hcl:c.P.classes.contains "Pact" = true)
  (hb:H b=some (.book B)) (ok:BkOK B) (kv:Kv v) (kl:Kv last) (hp:H pl=some (.list (ts.map .ref))) (hpg:pairsH H ts pL) (hg:H gl=some (.list (us.map .ref))) (hgg:pairsH H us gL) (hn:H nl=some (.list nL)) (hng:∀ v∈nL,Kv v) (l1:pL.length≤1000) (l2:gL.length≤1000) (l3:nL.length≤1000)
  (q:Ends (Zka B v pL gL nL last) (fun B'=>Q .none (up H b (.book B'))) (fun cl=>E cl H)):CallOK c (n+4) true "Book.tell" [.ref b,v,.ref pl,.ref gl,.ref nl,last] Q E H:=by
 refine Zb6 hb fun H₂ o f s p as ib hold=>?_;obtain ⟨hp',hpo⟩:=hold _ _ hp (Zl9 hb hp);obtain ⟨hg',hgo⟩:=hold _ _ hg (Zl9 hb hg);obtain ⟨hn',hno⟩:=hold _ _ hn (Zl9 hb hn);refine Zst G U hU hU1 hU2 hU3 hcl ib ok kv kl hp' hpo (hpg.in hb hold) hg' hgo (hgg.in hb hold) hn' hno hng l1 l2 l3 ?_;revert q;cases Zka B v pL gL nL last with
 | ok B'=>exact fun q o' H' as' ib' fr=>⟨o',f,s,p,as',B',ib',fr,.inl ⟨(fun _ h=>by contradiction),q⟩⟩
 | error cl=>exact fun q o' H' ib' fr=>⟨o',f,s,p,as,B,ib',fr,by refine rl (Ze4 hb) ?_;exact q⟩
theorem Z07 {w:AV} (hU0:P.fns.lookup "Book.call_off" = some BK.f_Book_call_off) (hU:P.fns.lookup "Book.dragged" = some BK.f_Book_dragged) (hU1:P.fns.lookup "Book.first_dragged" = some BK.f_Book_first_dragged) (hU2:P.fns.lookup "Book.fell" = some BK.f_Book_fell) (hU3:P.fns.lookup "Book.given_back" = some BK.f_Book_given_back)
  (hb:H b=some (.book B)) (ok:BkOK B) (kw:Kn H w) (q:match offQ B w with | .ok r=>∀ z,H z=none→Q (.ref z) (up (up H b (.book r.1)) z (.list (txs r.2))) | .error cl=>E cl H):CallOK c (n+4) true "Book.call_off" [.ref b,w] Q E H:=by
 refine Zb6 hb fun H₂ o f s p as ib hold=>Zwk G U hU0 hU hU1 hU2 hU3 ib ok (kw.open hb hold) ?_;revert q;cases offQ B w with
 | ok r=>exact fun q z o' H' hz ho hz' ib' fr=>⟨o',f,s,p,as,r.1,ib',fr,.inr ⟨z,_,rfl,Zea G U.a hb ib hold hz,hz',ho,q z (Zea G U.a hb ib hold hz)⟩⟩
 | error cl=>exact fun q=>⟨o,f,s,p,as,B,ib,.refl,by refine rl (Ze4 hb) ?_;exact q⟩
theorem Zs2 (hU:P.fns.lookup "Book.settle" = some BK.f_Book_settle) (hU0:P.fns.lookup "Book.standing" = some BK.f_Book_standing) (hU1:P.fns.lookup "Pact.is_full" = some BK.f_Pact_is_full) (g1:P.fns.lookup "greatest" = some BK.f_greatest) (g2:P.fns.lookup "are_met" = some BK.f_are_met) (g3:P.fns.lookup "table_of" = some BK.f_table_of)
  (hb:H b=some (.book B)) (ok:BkOK B) (nd:(B.pacts.map (·.name)).Nodup) (q:∀ z g,H z=none→Grt (Zcs B.pacts) (ndB B) (Zc6 B.pacts) g→Q (.ref z) (up (up H b (.book (Zdw g B))) z (.list (txs g)))):CallOK c (n+3) true "Book.settle" [.ref b] Q E H:=by
 refine Zb6 hb fun H₂ o f s p as ib hold=>Zpo G U hU hU0 hU1 g1 g2 g3 ib ok nd fun z g o' H' hz ho hz' hg ib' fr=>?_;exact ⟨o',f,s,p,as,_,ib',fr,.inr ⟨z,_,rfl,Zea G U.a hb ib hold hz,hz',ho,q z g (Zea G U.a hb ib hold hz) hg⟩⟩
theorem Zv2 {v:AV} (hU:P.fns.lookup "Book.state_of" = some BK.f_Book_state_of) (hb:H b=some (.book B)) (kv:Kn H v) (q:match Zcm B v with | some (j,x)=>Q (.str x.state.str) H | none=>E "NoPact" H):CallOK c (n+3) true "Book.state_of" [.ref b,v] Q E H:=by
 refine Zb6 hb fun H₂ o f s p as ib hold=>Zkd G U hU ib (kv.open hb hold) ?_;revert q;cases Zcm B v with
 | some e=>exact fun q=>⟨o,f,s,p,as,B,ib,.refl,.inl ⟨(fun _ h=>by contradiction),by refine rl (Ze4 hb) ?_;exact q⟩⟩
 | none=>exact fun q=>⟨o,f,s,p,as,B,ib,.refl,by refine rl (Ze4 hb) ?_;exact q⟩
end
end Mine
end
section
namespace Mine
noncomputable def Zfa (d:Int) (x:Pc):Bool:=x.state==.opn&&decide (x.last<d)
noncomputable def late (d:Int):Nat→Bk→Bk×List Str
 | 0,B=>(B,[])
 | m+1,B=>match (late d m B).1.pacts[m]? with
  | some x=>if Zfa d x then (Zdf (late d m B).1 m x,(late d m B).2++[x.name]) else late d m B
  | none=>late d m B
theorem Zni {d:Int} {m:Nat} {B:Bk} {x:Pc} (h:(late d m B).1.pacts[m]? = some x):late d (m+1) B=if Zfa d x then (Zdf (late d m B).1 m x,(late d m B).2++[x.name]) else late d m B:=by
 conv=>lhs;unfold late
 exact rl h rfl
theorem Zzd {d:Int} {m:Nat} {B:Bk} (h:(late d m B).1.pacts[m]? = none):late d (m+1) B=late d m B:=by
 conv=>lhs;unfold late
 exact rl h rfl
theorem Zq3 {d:Int} {m:Nat} {B:Bk}:late d (m+1) B=late d m B∨∃ x,(late d m B).1.pacts[m]? = some x∧Zfa d x=true∧late d (m+1) B=(Zdf (late d m B).1 m x,(late d m B).2++[x.name]):=by
 cases h:(late d m B).1.pacts[m]? with
 | none=>exact .inl (Zzd h)
 | some x =>
  cases hx:Zfa d x with
  | false=>exact .inl (by exact rl (Zni h) (rl hx (rl (if_neg Bool.false_ne_true) rfl)))
  | true=>exact .inr ⟨x,rfl,hx,by exact rl (Zni h) (rl (if_pos hx) rfl)⟩
theorem Zmb {d:Int} {B:Bk} (ok:BkOK B):∀ m,BkOK (late d m B).1∧(late d m B).1.pacts.length=B.pacts.length∧(late d m B).2.length≤m∧(late d m B).1.day=B.day
 | 0=>⟨ok,rfl,le_refl _,rfl⟩
 | m+1=>by
  obtain ⟨h1,h2,h3,h4⟩:=Zmb ok m;rcases Zq3 (d:=d) (m:=m) (B:=B) with e | ⟨x,hx,_,e⟩
  ·refine rl e ?_;exact ⟨h1,h2,Nat.le_succ_of_le h3,h4⟩
  ·refine rl e ?_;refine ⟨h1.fell hx,fell_len.trans h2,?_,?_⟩
   ·show ((late d m B).2++[x.name]).length≤m+1;refine rl length_append ?_;exact succ_le_succ h3
   ·exact (SameB.all (ins:=x.inside) (l:=x.parts) (h1.giveAble hx)).1.day.trans h4
noncomputable def Zhq (B:Bk) (i:Int):Bk×List Str:=Za9 B.pacts.length (late (B.day+i) B.pacts.length { B with day:=B.day+i }).1 (late (B.day+i) B.pacts.length { B with day:=B.day+i }).2
noncomputable def Zhp (B:Bk) (v:AV):Except String (Bk×List Str):=if Zin v=true∧¬ Zh6 v<1 then .ok (Zhq B (Zh6 v)) else .error "NoDay"
theorem BkOK.day {B:Bk} (ok:BkOK B) (d:Int):BkOK { B with day:=d }:=⟨ok.sz,ok.both,ok.len,ok.part,ok.inl,ok.purse⟩
section
variable {c:Cx} {P:Pg} (G:Gd c P) (U:HasP P) {n:Nat} {md:Bool} {Q:AV→Zaa→Prop} {E:String→Zaa→Prop} {H:Zaa} {o:Addr→Option Role} {b f s p a:Addr} {as:List Addr} {B:Bk} {j:Nat} {x:Pc}
inductive Zz8 (o:Addr→Option Role) (H:Zaa) (b f s p:Addr) (as:List Addr) (d:Int) (B:Bk) (v:AV) (z zv:Addr) (m:Nat) (V':VV) (H':Zaa):Prop
 | mk (o':Addr→Option Role) (pr:Option AV) (hV:V'=[some (.ref b),some v,some (.ref z),pr]) (ib:IsBook o' H' b f s p as (late d m B).1) (fr:Fr1 o H o' H') (hz:H' z=some (.list (txs (late d m B).2))) (ho:o' z=none) (hv:H' zv=some (.list (as.map .ref))) (hvo:o' zv=none) (hne:zv≠z):Zz8 o H b f s p as d B v z zv m V' H'
include G U
theorem Ztf {v:AV} (hU0:P.fns.lookup "Book.pass_days" = some BK.f_Book_pass_days) (hU:P.fns.lookup "Book.dragged" = some BK.f_Book_dragged) (hU1:P.fns.lookup "Book.first_dragged" = some BK.f_Book_first_dragged) (hU2:P.fns.lookup "Book.fell" = some BK.f_Book_fell) (hU3:P.fns.lookup "Book.given_back" = some BK.f_Book_given_back)
  (ib:IsBook o H b f s p as B) (ok:BkOK B) (hw:Kn H v)
  (q:match Zhp B v with | .ok r=>∀ z o' H',H z=none→o' z=none→H' z=some (.list (txs r.2))→IsBook o' H' b f s p as r.1→Fr1 o H o' H'→Q (.ref z) H' | .error cl=>E cl H):CallOK c (n+4) true "Book.pass_days" [.ref b,v] Q E H:=by
 refine G.call (F:=BK.f_Book_pass_days) hU0 rfl ?_;have hA:c.P.attrs=BK.attrs:=by exact rl G.hP (rl U.a.attrs rfl)
 have hM:c.P.meths=BK.meths:=by exact rl G.hP (rl U.a.meths rfl)
 refine w_st fun K nx=>?_;dsimp only [Zay,x_ao,Zat,Za6,Zan,Zae,Zad];refine Zfb G U.a hw ?_;unfold Zhp at q;cases hwb:Zin v with
 | false =>
  rw [hwb,if_neg (fun z=>Bool.false_ne_true z.1)] at q;exact ⟨rfl,q⟩
 | true =>
 rw [hwb] at q;cases v with
 | int i =>
  show wpAO _ false [_] _ _ _ _;dsimp only [Za1,Zao,Zad];show wpX _ (.lit (.int 1)) _ _ _ _;dsimp only [Zai,c_lt,Zaj];by_cases hi:i<1
  ·refine rl (decide_eq_true hi) ?_;rw [if_neg (fun z=>z.2 hi)] at q;exact ⟨rfl,q⟩
  refine rl (decide_eq_false hi) ?_;rw [if_pos ⟨rfl,hi⟩] at q;refine nx _ _ ?_;refine w_st fun K nx=>?_;dsimp only [Zam,Zar];refine Zr7 hA ib rfl ?_;dsimp only [Zad];show wbin .Add (.int B.day) (.int i) _ _;dsimp only [Zcv];refine st_a rfl (by refine rl hA ?_;rfl) ib.hb (by exact (show 4≤100 by decide)) (nx _ _ ?_);have ib1:=ib.setDay (B.day+i);have f1:Fr1 o H o (up H b (.inst "Book" [("day",.int (B.day+i)),("free",.ref f),("aside",.ref s),("pacts",.ref p)])):=Zj6 (by refine rl ib.ob ?_;simp);show wpSs _ _ _ _ _ _ (up H b (.inst "Book" [("day",.int (B.day+i)),("free",.ref f),("aside",.ref s),("pacts",.ref p)]));generalize up H b (.inst "Book" [("day",.int (B.day+i)),("free",.ref f),("aside",.ref s),("pacts",.ref p)])=H1 at ib1 f1;refine w_st fun K nx=>?_;dsimp only [Zam,Zau,Zag];intro z hz;refine ⟨show 2<4 by decide,nx _ _ ?_⟩;obtain ⟨ib2,f2⟩:=ib1.fresh hz (.list []);have hz2:up H1 z (.list []) z=some (.list []):=Zac;have hzo:(fun a=>if a=z then none else o a) z=(none:Option Role):=if_pos rfl;generalize (fun a=>if a=z then none else o a)=o2 at ib2 f2 hzo;generalize up H1 z (.list [])=H2 at ib2 f2 hz2;have hz0:H z=none:=f1.gr z hz;refine w_st fun K nx=>?_;refine ⟨rfl,?_⟩;refine Zhc hA rfl ib2 ok.len rfl fun zv o3 H3 hzv0 hzvo hzv ib3 f3=>?_;obtain ⟨_,e2⟩:=Zgk ib3.ps;obtain ⟨hz3,hzo3⟩:=f3.old _ _ hz2 hzo;have okd:=Zmb (d:=B.day+i) (ok.day (B.day+i));refine Zdb (xs:=as.map .ref) (by simp only [Zal,hzv]) (Zz8 o H b f s p as (B.day+i) { B with day:=B.day+i } (.int i) z zv) ⟨o3,none,rfl,ib3,(f1.trans f2).trans f3,hz3,hzo3,hzv,hzvo,fun e=>by rw [e,hz2] at hzv0;contradiction⟩ ?_;rintro I hI m V' H' ⟨o',pr,rfl,ib',fr',hz',ho',hv',hvo',hne⟩;obtain ⟨okm,hlen,hl2,hday⟩:=okd m;refine ⟨hv'.trans hzv.symm,fun hm=>?_,fun y hy=>?_⟩
  ·rw [length_map,e2] at hm;subst hm;refine nx _ _ ?_;refine w_st fun K nx=>?_;dsimp only [Zbq];refine Zbw hM (by decide) (by decide) ib' rfl ?_;refine Zi7 G U hU hU1 hU2 hU3 ib' okm hz' ho' (le_trans hl2 (le_trans ok.len (by decide))) fun z' o'' H'' h1 h2 h3 h4 h5=>?_;rw [hlen] at h3 h4;exact q z' o'' H'' (fr'.gr z' h1) h2 h3 h4 (fr'.trans h5)
  rw [getElem?_map,map_eq_some_iff] at hy;obtain ⟨a,ha,rfl⟩:=hy;obtain ⟨x,hx⟩:∃ x,(late (B.day+i) m { B with day:=B.day+i }).1.pacts[m]? = some x:=⟨_,getElem?_eq_getElem (by refine rl hlen ?_;show m<B.pacts.length;refine rl e2.symm ?_;exact (gsi ha).1)⟩
  have ip:=ib'.pact hx ha;refine ⟨show 3<4 by decide,?_⟩;refine w_st fun K2 nx2=>?_;show wpS _ _ _ _ _ [some (.ref b),some (.int i),some (.ref z),some (.ref a)] _;have hstep:=Zni hx;have skip:Zfa (B.day+i) x=false→I (m+1) [some (.ref b),some (.int i),some (.ref z),some (.ref a)] H':=fun h=>by
   rw [h,if_neg Bool.false_ne_true] at hstep;exact hI _ _ _ ⟨o',_,rfl,by refine rl hstep ?_;exact ib',fr',by refine rl hstep ?_;exact hz',ho',hv',hvo',hne⟩
  dsimp only [Zay,x_ao,Zat,Zao];refine Zfm hA ip rfl ?_
  (dsimp only [Zai,Zcg,Zaj];refine rl Zf4 ?_)
  cases hs:x.state==Sta.opn with
  | false=>exact nx2 _ _ (skip (by unfold Zfa;refine rl hs ?_;rfl))
  | true =>
  show wpAO _ true [_] _ _ _ _;dsimp only [Za1,Zao];refine Zwg hA ip rfl ?_;refine Zr7 hA ib' rfl ?_;refine rl hday ?_;dsimp only [c_lt,Zaj];by_cases hlt:x.last<B.day+i
  ·refine rl (decide_eq_true hlt) ?_;have hlb:Zfa (B.day+i) x=true:=by unfold Zfa;refine rl hs (rl (decide_eq_true hlt) ?_);rfl
   rw [hlb,if_pos rfl] at hstep;show wpSs _ _ _ _ _ [some (.ref b),some (.int i),some (.ref z),some (.ref a)] _;refine w_st fun K3 nx3=>?_;dsimp only [Zax,x_bm,Zad];refine ⟨?_,?_⟩
   ·show match H' z with | some (.list _)=>_ | some (.dict _ _)=>_ | _=>False
    refine rl hz' ?_;exact .inl rfl
   dsimp only [Zae];refine Zbw hM (by decide) (by decide) ib' rfl ?_;dsimp only [Zae,Zad];show wpXs _ [] _ _ _ _;refine Eq.mpr (Zag) ?_;refine Zmj G U hU2 hU3 ib' okm hx ha fun o4 H4 ib4 f4=>?_;obtain ⟨hz4,hzo4⟩:=f4.old _ _ hz' ho';obtain ⟨hv4,hvo4⟩:=f4.old _ _ hv' hvo';refine rl Zag ?_;refine Zde hz4 (by refine rl Zaf ?_;exact le_trans hl2 (le_trans (le_of_lt (gsi hx).1) (le_trans (le_of_eq hlen) (le_trans ok.len (by decide))))) (nx3 _ _ (nx2 _ _ ?_));refine rl Zd7 ?_;refine hI _ _ _ ⟨o4,_,rfl,by refine rl hstep ?_;exact ib4.upN hzo4 _,⟨fun y v hy hyo=>?_,fun y h=>(fr'.trans f4).gr y (Zdm h)⟩,by refine rl hstep ?_;exact Zac,hzo4,by refine rl (Zab hne) ?_;exact hv4,hvo4,hne⟩;have:=(fr'.trans f4).old y v hy hyo;exact ⟨by refine rl (Zab (fun e=>by rw [e,hz0] at hy;contradiction)) ?_;exact this.1,this.2⟩
  ·refine rl (decide_eq_false hlt) ?_;exact nx2 _ _ (skip (by unfold Zfa;exact rl (decide_eq_false hlt ..) (rl (Bool.and_false ..) rfl)))
 | _=>contradiction
end
end Mine
end
section
namespace Mine
noncomputable def Zfc (x:Pc):List Str:=(x.parts.filter fun e=>decide (e.1∈x.inside)).map (·.1)
theorem Zdi {Q:AV→Zaa→Prop} {stp:AV→(Option AV→Zaa→Prop)→Zaa→Prop} {v:AV} {H:Zaa} {xs:List AV} (hx:Zal H v=some xs) (hl:xs.length≤sizeLine) (f:AV→Option AV)
  (hs:∀ x∈xs,∀ nx:Option AV→Zaa→Prop,nx (f x) H→stp x nx H) (q:∀ a,H a=none→Q (.ref a) (up H a (.list (xs.filterMap f)))):Zj3 Q stp v H:=by
 refine ⟨xs,hx,hl,fun k acc H'=>H'=H∧acc=(xs.take k).filterMap f,⟨rfl,rfl⟩,?_⟩;rintro k acc H' ⟨rfl,rfl⟩;refine ⟨?_,fun hk a ha=>?_,fun x hxk=>?_⟩
 ·cases v with
  | ref a=>exact rfl
  | _=>trivial
 ·refine rl hk (rl take_length ?_);exact q a ha
 ·refine hs x (mem_of_getElem? hxk) _ ⟨rfl,?_⟩;refine rl (Zb4 hxk) (rl List.filterMap_append ?_);cases hf:f x<;>simp [hf]
section
variable {c:Cx} {P:Pg} (G:Gd c P) (U:HasP P) {n:Nat} {md:Bool} {Q:AV→Zaa→Prop} {E:String→Zaa→Prop} {H:Zaa} {o:Addr→Option Role} {b f s p a:Addr} {as:List Addr} {B:Bk} {j:Nat} {x:Pc}
noncomputable def insF (H:Zaa) (x:Pc):AV→Option AV
 | .ref t=>(match H t with
  | some (.tuple [.str k,_])=>if k∈x.inside then some (.str k) else none
  | _=>none)
 | _=>none
theorem Znm {t:Addr} {k:Str} {i:Int} (h:H t=some (.tuple [.str k,.int i])):insF H x (.ref t)=if k∈x.inside then some (.str k) else none:=by
 show (match H t with | some (.tuple [.str k,_])=>if k∈x.inside then some (AV.str k) else none | _=>none)=_;exact rl h rfl
theorem Znn:∀ {ts:List Addr} {l:List (Str×Int)},pairsAV o H ts l→(ts.map AV.ref).filterMap (insF H x)=txs ((l.filter fun e=>decide (e.1∈x.inside)).map (·.1))
 | [],[],_=>rfl
 | t::ts,e::l,h=>by
  refine rl map_cons (rl filterMap_cons (rl (Znm h.2.1) (rl filter_cons (rl (Znn h.2.2) ?_))));by_cases hi:e.1∈x.inside
  ·refine rl (if_pos hi) (rl (if_pos (decide_eq_true hi)) ?_);rfl
  ·exact rl (if_neg hi) (rl (if_neg (by rw [decide_eq_false hi];exact Bool.false_ne_true)) rfl)
 | [],_::_,h=>h.elim
 | _::_,[],h=>h.elim
include G U
theorem Zou {v:AV} (hU:P.fns.lookup "Book.inside_of" = some BK.f_Book_inside_of) (ib:IsBook o H b f s p as B) (ok:BkOK B) (hk:Kn H v)
  (q:match Zcm B v with | some (j,x)=>∀ z,H z=none→Q (.ref z) (up H z (.list (txs (Zfc x)))) | none=>E "NoPact" H):CallOK c (n+3) true "Book.inside_of" [.ref b,v] Q E H:=by
 refine G.call (F:=BK.f_Book_inside_of) hU rfl ?_;have hA:c.P.attrs=BK.attrs:=by exact rl G.hP (rl U.a.attrs rfl)
 have hM:c.P.meths=BK.meths:=by exact rl G.hP (rl U.a.meths rfl)
 show wpSs _ _ _ _ _ [some (.ref b),some v,none] _;refine w_st fun K nx=>?_;refine rl Zam ?_;refine Zbw hM (by decide) (by decide) ib rfl ?_;refine rl Zae (rl Zad ?_);show wpXs _ [] _ _ _ _;refine rl Zag ?_;refine Zeo G U ib hk ?_;cases e:Zcm B v with
 | none=>rw [e] at q;exact q
 | some z =>
  obtain ⟨j,x⟩:=z;rw [e] at q;intro a ha ip;have hj:=Zd1 e;refine ⟨show 2<3 by decide,nx _ _ ?_⟩;refine w_st fun K nx=>?_;refine rl Zbq (rl Zba ?_);refine ⟨rfl,?_⟩;refine Zfn hA ip rfl fun zp ⟨hz,ts,hts,hl⟩=>?_;refine Zdi (xs:=ts.map .ref) (by simp only [Zal,hts]) (by refine rl (length_map ..) (rl (Zdo hl ..) ?_);exact le_trans (ok.inl j x hj).2.1 (by decide)) (insF H x) (fun y hy nx hnx=>?_) fun w hw=>?_
  ·obtain ⟨t,ht,rfl⟩:=mem_map.mp hy;obtain ⟨m,hm,rfl⟩:=mem_iff_getElem.mp ht;obtain ⟨e,he,htd,htt⟩:=Zd0 hl (getElem?_eq_getElem hm);rw [Znm htt] at hnx;refine rl (if_neg (by decide)) (rl Zbg ?_);refine Zrb (no:=false) (k:=e.1) hA ib hj ha ip rfl (fun Q' h=>Zjp htt h) ?_;refine rl Zaj (rl (show ((decide (e.1∈x.inside)) != false)=decide (e.1∈x.inside) from Bool.xor_false _) ?_);by_cases hi:e.1∈x.inside
   ·refine rl (decide_eq_true hi) (rl (if_pos rfl) (rl Zav (rl Zad ?_)));rw [if_pos hi] at hnx;exact Zjp htt hnx
   ·refine rl (decide_eq_false hi) (rl (if_neg Bool.false_ne_true) ?_);rw [if_neg hi] at hnx;exact hnx
  ·refine rl (Znn hl) ?_;exact q w hw
theorem Zt7 {v:AV} (hU:P.fns.lookup "Book.inside_of" = some BK.f_Book_inside_of) (hb:H b=some (.book B)) (ok:BkOK B) (kv:Kn H v)
  (q:match Zcm B v with | some (j,x)=>∀ z,H z=none→Q (.ref z) (up H z (.list (txs (Zfc x)))) | none=>E "NoPact" H):CallOK c (n+3) true "Book.inside_of" [.ref b,v] Q E H:=by
 refine Zb6 hb fun H₂ o f s p as ib hold=>Zou G U hU ib ok (kv.open hb hold) ?_;revert q;cases Zcm B v with
 | some e =>
  intro q z hz;have hz0:=Zea G U.a hb ib hold hz;have t78:=ib.fresh hz (.list (txs (Zfc e.2)));have ib':=t78.1;have f':=t78.2;exact ⟨_,f,s,p,as,B,ib',f',.inr ⟨z,_,rfl,hz0,Zac,if_pos rfl,by refine rl (Ze4 hb) ?_;exact q z hz0⟩⟩
 | none=>exact fun q=>⟨o,f,s,p,as,B,ib,.refl,by refine rl (Ze4 hb) ?_;exact q⟩
theorem Zu5 {v:AV} (hU0:P.fns.lookup "Book.pass_days" = some BK.f_Book_pass_days) (hU:P.fns.lookup "Book.dragged" = some BK.f_Book_dragged) (hU1:P.fns.lookup "Book.first_dragged" = some BK.f_Book_first_dragged) (hU2:P.fns.lookup "Book.fell" = some BK.f_Book_fell) (hU3:P.fns.lookup "Book.given_back" = some BK.f_Book_given_back)
  (hb:H b=some (.book B)) (ok:BkOK B) (kw:Kn H v) (q:match Zhp B v with | .ok r=>∀ z,H z=none→Q (.ref z) (up (up H b (.book r.1)) z (.list (txs r.2))) | .error cl=>E cl H):CallOK c (n+4) true "Book.pass_days" [.ref b,v] Q E H:=by
 refine Zb6 hb fun H₂ o f s p as ib hold=>Ztf G U hU0 hU hU1 hU2 hU3 ib ok (kw.open hb hold) ?_;revert q;cases Zhp B v with
 | ok r=>exact fun q z o' H' hz ho hz' ib' fr=>⟨o',f,s,p,as,r.1,ib',fr,.inr ⟨z,_,rfl,Zea G U.a hb ib hold hz,hz',ho,q z (Zea G U.a hb ib hold hz)⟩⟩
 | error cl=>exact fun q=>⟨o,f,s,p,as,B,ib,.refl,by refine rl (Ze4 hb) ?_;exact q⟩
end
end Mine
end
section
namespace Mine
theorem Zre {l:List (Str×Int)} {k:Str}:hs l k=decide (k∈l.map (·.1)):=by
 unfold hs lk;rw [isSome_map,Bool.eq_iff_iff,List.find?_isSome];simp
def Kb (b:Addr) (H H':Zaa):Prop:=∀ a x,a≠b→H a=some x→H' a=some x
theorem Kb.refl {b:Addr} {H:Zaa}:Kb b H H:=fun _ _ _ h=>h
theorem Kb.trans {b:Addr} {H H' H'':Zaa} (x:Kb b H H') (y:Kb b H' H''):Kb b H H'':=fun a o n h=>y a o n (x a o n h)
theorem Kb.ext {b:Addr} {H H':Zaa} (x:Ext H H'):Kb b H H':=fun a o _ h=>x a o h
theorem Kb.up {b:Addr} {H:Zaa} {y:AObj}:Kb b H (Mine.up H b y):=fun a o n h=>by refine rl (Zab n) ?_;exact h
section
variable {g:Gx} {V:VV} {Q:AV→Zaa→Prop} {E:String→Zaa→Prop} {H:Zaa} {b:Addr} {B:Bk}
theorem Zcu {i:Nat} {m:String} {xs:List X} (hP:g.c.P.meths=BK.meths) (hm:BK.meths.contains ("Book",m)=true) (hn:bookAttrs.contains m=false) (hb:H b=some (.book B)) (hV:V[i]? = some (some (.ref b)))
  (q:wpXs g xs V (fun vs H=>CallOK g.c g.n g.md ("Book."++m) (.ref b::vs) Q E H) E H):wpX g (.meth (.var i) m xs) V Q E H:=by
 simp only [Za5,Zbd,Zad,hV,hb];exact ⟨by refine rl hP ?_;exact hm,hn,q⟩
abbrev Pure (g:Gx) (V:VV) (e:X) (v:AV):Prop:=∀ (Q:AV→Zaa→Prop) (E:String→Zaa→Prop) (H:Zaa),Q v H→wpX g e V Q E H
abbrev Lays (g:Gx) (V:VV) (e:X) (l:List (AV×AV)) (H:Zaa):Prop:=∀ (Q:AV→Zaa→Prop) (E:String→Zaa→Prop) (H1:Zaa),Ext H H1→(∀ H' z ts,Ext H1 H'→H' z=some (.list (ts.map .ref))→pairsH H' ts l→Q (.ref z) H')→wpX g e V Q E H1
abbrev Z0b (g:Gx) (V:VV) (e:X) (l:List AV) (H:Zaa):Prop:=∀ (Q:AV→Zaa→Prop) (E:String→Zaa→Prop) (H1:Zaa),Ext H H1→(∀ H' z,Ext H1 H'→H' z=some (.list l)→Q (.ref z) H')→wpX g e V Q E H1
theorem pairsH.ext {H':Zaa} (hE:Ext H H'):∀ {ts:List Addr} {l:List (AV×AV)},pairsH H ts l→pairsH H' ts l
 | [],[],_=>trivial
 | _::_,_::_,h=>⟨⟨rfl,hE _ _ h.1.2.1,h.1.2.2⟩,pairsH.ext hE h.2⟩
 | [],_::_,h=>h.elim
 | _::_,[],h=>h.elim
theorem Z1a:Z0b g V (.list []) [] H:=fun Q E H1 _ q=>by
 refine rl Zau (rl Zag ?_);intro z hz;exact q _ z (Ext.refl.new hz) Zac
theorem lay1 {e1 e2:X} {v w:AV} (h1:Pure g V e1 v) (h2:Pure g V e2 w) (k1:Kv v) (k2:Kv w):Lays g V (.list [.tuple [e1,e2]]) [(v,w)] H:=fun Q E H1 _ q=>by
 refine rl Zau (rl Zae (rl Zbc (rl Zae ?_)));refine h1 _ _ _ ?_;refine rl Zae ?_;refine h2 _ _ _ ?_;refine rl Zag ?_;intro t ht;refine rl Zag ?_;intro z hz;have hE:=(Ext.refl.new (o:=.tuple [v,w]) ht).new (o:=.list [.ref t]) hz;exact q _ z [t] hE Zac ⟨⟨rfl,Zdl Zac hz,k1,k2⟩,trivial⟩
theorem Kv.str {s:Str} (h:s.length<2 ^ 62):Kv (.str s):=⟨(fun a h=>by cases h),fun t e=>by cases e;exact h⟩
theorem Kv.int {i:Int}:Kv (.int i):=⟨(fun a h=>by contradiction),fun t e=>by contradiction⟩
end
noncomputable def dV:AV→PyData
 | .none=>.none
 | .bool b=>.bool b
 | .int i=>.int i
 | .str s=>.str s
 | .ref _=>.none
theorem Zzy {v:AV}:PyData.eqv (dV v) (dV v)=true:=by
 cases v with
 | none=>rfl
 | bool b=>exact beq_self_eq_true b
 | int i=>exact beq_self_eq_true i
 | str s=>exact beq_self_eq_true s
 | ref a=>rfl
theorem Kv.none:Kv .none:=⟨(fun a h=>by contradiction),fun t e=>by contradiction⟩
theorem Kv.bool {b:Bool}:Kv (.bool b):=⟨(fun a h=>by contradiction),fun t e=>by contradiction⟩
end Mine
end
section
namespace Mine
noncomputable def vl (l:List (Str×Int)) (s:Str):Int:=(lk l s).getD 0
noncomputable def sAt (ps:List (Str×Int)) (s:Str):Int:=(ps.map fun e=>if e.1=s then e.2 else 0).sum
noncomputable def sm {α:Type} (l:List α) (f:α→Int):Int:=(l.map f).sum
section
variable {α:Type} {l:List α} {f g:α→Int}
theorem sm_add:sm l (fun x=>f x+g x)=sm l f+sm l g:=by
 induction l with
 | nil=>rfl
 | cons a l ih=>show f a+g a+sm l _=f a+sm l f+(g a+sm l g);refine rl ih ?_;lia
theorem Zs1 (h:∀ x∈l,f x=g x):sm l f=sm l g:=congrArg List.sum (map_congr_left h)
theorem Zjl (h:∀ x∈l,f x=0):sm l f=0:=by
 induction l with
 | nil=>rfl
 | cons a l ih=>show f a+sm l f=0;refine rl (h a (.head _)) (rl (ih fun x hx=>h x (.tail _ hx)) ?_);rfl
theorem Zx6 (h:∀ x∈l,0≤f x):0≤sm l f:=by
 induction l with
 | nil=>exact Int.le_refl 0
 | cons a l ih=>exact add_nonneg (h a (.head _)) (ih fun x hx=>h x (.tail _ hx))
theorem Zpn {l':List α}:sm (l++l') f=sm l f+sm l' f:=by
 induction l with
 | nil=>exact (Int.zero_add _).symm
 | cons a l ih=>show f a+sm (l++l') f=f a+sm l f+sm l' f;refine rl ih ?_;lia
theorem Zx5 {j:Nat} {x y:α} (h:l[j]? = some x):sm (l.set j y) f=sm l f - f x+f y:=by
 induction l generalizing j with
 | nil=>cases h
 | cons a l ih =>
  cases j with
  | zero=>cases h;show f y+sm l f=f x+sm l f - f x+f y;lia
  | succ j=>show f a+sm (l.set j y) f=f a+sm l f - f x+f y;refine rl (ih h) ?_;lia
theorem Zm2 {ks:List Str} {k:Str} {i:Int} (nd:ks.Nodup) (hk:k∈ks):sm ks (fun s=>if k=s then i else 0)=i:=by
 induction ks with
 | nil=>cases hk
 | cons a ks ih =>
  obtain ⟨h1,h2⟩:=nodup_cons.mp nd;show (if k=a then i else 0)+sm ks _=i;by_cases e:k=a
  ·refine rl (if_pos e) (rl (Zjl fun x hx=>if_neg fun q=>h1 (by rw [← e,q];exact hx)) ?_);exact add_zero i
  ·refine rl (if_neg e) (rl (ih h2 ((mem_cons.mp hk).resolve_left e)) ?_);exact Int.zero_add i
end
theorem Zeu {e:Str×Int} {ps:List (Str×Int)} {s:Str}:sAt (e::ps) s=(if e.1=s then e.2 else 0)+sAt ps s:=rfl
theorem Zu3 {ps:List (Str×Int)} {s:Str} (h:s ∉ ps.map (·.1)):sAt ps s=0:=Zjl (l:=ps) fun e he=>if_neg fun q=>h (mem_map.mpr ⟨e,he,q⟩)
theorem Zpu {ps:List (Str×Int)} {s:Str} (h:∀ e∈ps,1≤e.2):0≤sAt ps s:=Zx6 (l:=ps) fun e he=>by
 have:=h e he;split
 ·exact Int.le_trans (by decide) this
 ·exact Int.le_refl 0
theorem Zlv {ks:List Str} {ps:List (Str×Int)} (nd:ks.Nodup) (h:∀ e∈ps,e.1∈ks):sm ks (sAt ps)=sumL ps:=by
 induction ps with
 | nil=>exact Zjl fun _ _=>rfl
 | cons e ps ih =>
  have:sm ks (sAt (e::ps))=sm ks (fun s=>if e.1=s then e.2 else 0)+sm ks (sAt ps):=sm_add;refine rl this (rl (Zm2 nd (h e (.head _))) (rl (ih fun x hx=>h x (.tail _ hx)) ?_));rfl
theorem Zfw {e:Str×Int} {l:List (Str×Int)} {s:Str}:vl (e::l) s=if e.1=s then e.2 else vl l s:=by
 unfold vl;refine rl Zep ?_;split<;>rfl
theorem Zuw {l:List (Str×Int)} (nd:(l.map (·.1)).Nodup):sm (l.map (·.1)) (vl l)=sumL l:=by
 have:∀ s∈l.map (·.1),vl l s=sAt l s:=by
  induction l with
  | nil=>exact fun s hs=>by cases hs
  | cons e l ih =>
   obtain ⟨h1,h2⟩:=nodup_cons.mp nd;intro s hs
   (rw [Zfw];dsimp only [Zeu])
   by_cases q:e.1=s
   ·exact rl (if_pos q ..) (rl (if_pos q ..) (rl (Zu3 (by rw [← q];exact h1) ..) (rl (add_zero ..) rfl)))
   ·rw [if_neg q,if_neg q,Int.zero_add];exact ih h2 s ((mem_cons.mp hs).resolve_left fun z=>q z.symm)
 exact rl (Zs1 this) (rl (Zlv nd fun e he=>mem_map.mpr ⟨e,he,rfl⟩) rfl)
theorem Zwv {l:List (Str×Int)} {k:Str} {v:Int} (h:hs l k=true):(pt l k v).map (·.1)=l.map (·.1):=by
 unfold pt;refine rl (if_pos (show (lk l k).isSome=true from h)) (rl map_map ?_);apply map_congr_left;intro e _;show (if e.1=k then (e.1,v) else e).1=e.1;split<;>rfl
theorem Zj5 {l:List (Str×Int)} {k s:Str} {v:Int}:vl (pt l k v) s=if s=k then v else vl l s:=by
 unfold vl;refine rl Zza ?_;split<;>rfl
theorem Zw8 {l l':List (Str×Int)} (h:l.map (·.1)=l'.map (·.1)) {k:Str}:hs l k=hs l' k:=by exact rl Zre (rl Zre (rl h rfl))
structure Dif (l l':List (Str×Int)) (d:Str→Int):Prop where
 k:l'.map (·.1)=l.map (·.1)
 v:∀ s,vl l' s=vl l s+d s
theorem Dif.refl {l:List (Str×Int)}:Dif l l fun _=>0:=⟨rfl,fun _=>(add_zero _).symm⟩
theorem Dif.trans {l l' l'':List (Str×Int)} {d d':Str→Int} (a:Dif l l' d) (b:Dif l' l'' d'):Dif l l'' fun s=>d s+d' s:=⟨b.k.trans a.k,fun s=>by exact rl (b.v ..) (rl (a.v ..) (rl (Int.add_assoc ..) rfl))⟩
theorem Dif.of {l l':List (Str×Int)} {d d':Str→Int} (a:Dif l l' d) (h:∀ s,d s=d' s):Dif l l' d':=⟨a.k,fun s=>by exact rl (a.v ..) (rl (h ..) rfl)⟩
theorem Dif.pt {l:List (Str×Int)} {k:Str} {i:Int} (h:hs l k=true):Dif l (Mine.pt l k ((lk l k).getD 0+i)) fun s=>if k=s then i else 0:=⟨Zwv h,fun s=>by
 refine rl Zj5 ?_;by_cases e:s=k
 ·refine rl (if_pos e) (rl (if_pos e.symm) (rl e ?_));rfl
 ·exact rl (if_neg e ..) (rl (if_neg fun q=>e q.symm ..) (rl (add_zero ..) rfl))⟩
theorem Dif.sum {l l':List (Str×Int)} {d:Str→Int} (a:Dif l l' d) (nd:(l.map (·.1)).Nodup):sumL l'=sumL l+sm (l.map (·.1)) d:=by
 refine rl (Eq.symm (Zuw nd)) (rl (Eq.symm (Zuw (l:=l') (by rw [a.k];exact nd))) (rl a.k (rl sm_add.symm ?_)));exact Zs1 fun s _=>a.v s
theorem Dif.hs {l l':List (Str×Int)} {d:Str→Int} (a:Dif l l' d) {k:Str}:Mine.hs l' k=Mine.hs l k:=Zw8 a.k
theorem Zqt {l l':List Str} (nd:l.Nodup) (h:∀ k∈l,k∈l'):l.length≤l'.length:=by
 induction l generalizing l' with
 | nil=>exact zero_le _
 | cons a l ih =>
  obtain ⟨h1,h2⟩:=nodup_cons.mp nd;have ha:=h a (.head _);have:=ih (l':=l'.erase a) h2 fun k hk=>(List.mem_erase_of_ne (show k≠a from fun q=>h1 (q▸hk))).mpr (h k (.tail _ hk));rw [List.length_erase_of_mem ha] at this;have h0:0<l'.length:=List.length_pos_of_mem ha;show l.length+1≤l'.length;omega
theorem Zy1 {l l':List Str} (nd:l.Nodup) (h:∀ k∈l,k∈l') (hl:l'.length≤l.length) {k:Str} (hk:k∈l'):k∈l:=Classical.byContradiction fun hn=>by
 have:=Zqt (l:=k::l) (l':=l') (nodup_cons.mpr ⟨hn,nd⟩) fun x hx=>by
  rcases mem_cons.mp hx with rfl | hx
  ·exact hk
  ·exact h x hx
 have h1:l.length+1≤l'.length:=this;lia
end Mine
end
section
namespace Mine
noncomputable def held (x:Pc):List (Str×Int):=x.parts.filter fun e=>decide (e.1∈x.inside)
noncomputable def back (x:Pc) (st:Sta):List (Str×Int):=if st = .dn then x.gains else held x
noncomputable def gone (x:Pc) (st:Sta):List (Str×Int):=if st = .dn then x.parts else held x
noncomputable def Pc.end (x:Pc) (st:Sta):Pc:={ x with inside:=[],state:=st }
structure Zmr (B B':Bk) (j:Nat) (x:Pc) (st:Sta):Prop where
 at_:B.pacts[j]? = some x
 op:x.state = .opn
 hw:st = .fln∨st = .dn∧Zgx x=true
 ps:B'.pacts=B.pacts.set j (x.end st)
 f:Dif B.free B'.free (sAt (back x st))
 a:Dif B.aside B'.aside fun s=>- sAt (gone x st) s
theorem Dif.sub {l:List (Str×Int)} {k:Str} {i:Int} (h:Mine.hs l k=true):Dif l (Mine.pt l k ((lk l k).getD 0 - i)) fun s=>- (if k=s then i else 0):=(Dif.pt (i:=- i) h).of fun s=>by split<;>rfl
theorem Zqp {e:Str×Int} {ps:List (Str×Int)} {s:Str}:- (if e.1=s then e.2 else 0) + - sAt ps s = - sAt (e::ps) s:=by (dsimp only [Zeu];exact rl Int.neg_add rfl)
theorem Zud {ins:List Str} {l:List (Str×Int)} {B:Bk} (h:∀ e∈l,hs B.free e.1=true∧hs B.aside e.1=true):Dif B.free (Zcr ins l B).free (sAt (l.filter fun e=>decide (e.1∈ins)))∧Dif B.aside (Zcr ins l B).aside fun s=>- sAt (l.filter fun e=>decide (e.1∈ins)) s:=by
 induction l generalizing B with
 | nil=>exact ⟨.refl,.refl⟩
 | cons e l ih =>
  obtain ⟨h1,h2⟩:=h e (.head _);unfold Zcr;by_cases q:e.1∈ins
  ·refine rl (if_pos q) (rl filter_cons (rl (if_pos (decide_eq_true q)) ?_));have d1:=Dif.pt (i:=e.2) h1;have d2:=Dif.sub (i:=e.2) h2;obtain ⟨g1,g2⟩:=ih (B:=Zmg B e.1 e.2) fun y hy=>⟨d1.hs.trans (h y (.tail _ hy)).1,d2.hs.trans (h y (.tail _ hy)).2⟩
   exact ⟨d1.trans g1,(d2.trans g2).of fun s=>Zqp⟩
  ·refine rl (if_neg q) (rl filter_cons (rl (if_neg (fun z=>q (of_decide_eq_true z))) ?_));exact ih fun y hy=>h y (.tail _ hy)
theorem Zp4:∀ {l:List (Str×Int)} {B:Bk},(∀ e∈l,hs B.aside e.1=true)→(payAll l B).free=B.free∧Dif B.aside (payAll l B).aside fun s=>- sAt l s
 | [],B,_=>⟨rfl,.refl⟩
 | e::l,B,h=>by
  have d:=Dif.sub (i:=e.2) (h e (.head _));obtain ⟨g1,g2⟩:=Zp4 (l:=l) (B:={ B with aside:=pt B.aside e.1 ((lk B.aside e.1).getD 0 - e.2) }) fun y hy=>d.hs.trans (h y (.tail _ hy));exact ⟨g1,(d.trans g2).of fun s=>Zqp⟩
theorem Znr:∀ {l:List (Str×Int)} {B:Bk},(∀ e∈l,hs B.free e.1=true)→Dif B.free (gainAll l B).free (sAt l)∧(gainAll l B).aside=B.aside
 | [],B,_=>⟨.refl,rfl⟩
 | e::l,B,h=>by
  have d:=Dif.pt (i:=e.2) (h e (.head _));obtain ⟨g1,g2⟩:=Znr (l:=l) (B:={ B with free:=pt B.free e.1 ((lk B.free e.1).getD 0+e.2) }) fun y hy=>d.hs.trans (h y (.tail _ hy));exact ⟨d.trans g1,g2⟩
theorem Zhj {B:Bk} {j:Nat} {x:Pc} (ok:BkOK B) (hj:B.pacts[j]? = some x) (ho:x.state = .opn):Zmr B (Zdf B j x) j x .fln :=
 have d:=Zud (ins:=x.inside) (ok.giveAble hj)
 ⟨hj,ho,.inl rfl,rfl,d.1,d.2⟩
theorem Zpj {B:Bk} {j:Nat} {x:Pc} (ok:BkOK B) (hj:B.pacts[j]? = some x) (hf:Zgx x=true):Zmr B (Zrr B j x) j x .dn:=by
 have d1:=Zp4 (l:=x.parts) (B:=B) fun e he=>(ok.giveAble hj e he).2;have d2:=Znr (l:=x.gains) (B:=payAll x.parts B) fun e he=>by refine rl d1.1 ?_;exact ok.purse j x hj e (.inr he)
 rw [d1.1] at d2;exact ⟨hj,beq_iff_eq.mp (Bool.and_eq_true _ _▸hf:_∧_).1,.inr ⟨rfl,hf⟩,rfl,d2.1,by refine rl (show (Zrr B j x).aside=(payAll x.parts B).aside from d2.2) ?_;exact d1.2⟩
theorem Zwh {x x' y:Pc} {k:Str} {ps:List Pc} {j m:Nat} (h:ps[j]? = some x) (e:x'.name=x.name) (hp:pAt ps k=some (m,y)) (hm:m≠j):pAt (ps.set j x') k=some (m,y):=by
 induction ps generalizing j m with
 | nil=>cases h
 | cons q r ih =>
  unfold pAt at hp;cases j with
  | zero =>
   cases h;show pAt (x'::r) k=_;unfold pAt;by_cases z:x.name=k
   ·rw [if_pos z] at hp;cases hp;exact absurd rfl hm
   ·rw [if_neg z] at hp;refine rl (if_neg (by rw [e];exact z)) ?_;exact hp
  | succ j =>
   show pAt (q::r.set j x') k=_;unfold pAt;by_cases z:q.name=k
   ·rw [if_pos z] at hp ⊢;exact hp
   ·rw [if_neg z] at hp ⊢;obtain ⟨⟨m',y'⟩,h1,h2⟩:=map_eq_some_iff.mp hp;cases h2;refine rl (ih h h1 fun q=>hm (congrArg (· + 1) q)) ?_;rfl
section
variable {P:Bk→Prop} (ok:∀ {B},P B→BkOK B) (st:∀ {B B' j x},P B→Zmr B B' j x .fln→P B')
include ok st
theorem Zib:∀ {n:Nat} {B:Bk} {l:List Str},P B→P (Za9 n B l).1
 | 0,_,_,h=>h
 | n+1,B,l,h=>by
  cases e:Zcd B with
  | none=>refine rl (Zc5 e) ?_;exact h
  | some w =>
   obtain ⟨h1,h2⟩:=Zh9 (m:=w.1) (x:=w.2) e;refine rl (Zc4 e) ?_;exact Zib (st h (Zhj (ok h) h1 (beq_iff_eq.mp (Bool.and_eq_true _ _▸h2:_∧_).1)))
theorem Zfy {B:Bk} {d:Int} (h:P B):∀ m,P (late d m B).1
 | 0=>h
 | m+1=>by
  rcases Zq3 (d:=d) (m:=m) (B:=B) with e | ⟨x,hx,hl,e⟩
  ·refine rl e ?_;exact Zfy h m
  ·refine rl e ?_;exact st (Zfy h m) (Zhj (ok (Zfy h m)) hx (beq_iff_eq.mp (Bool.and_eq_true _ _▸hl:_∧_).1))
set_option tactic.hygienic true in
theorem Znb {B:Bk} {w:AV} {r:Bk×List Str} (h:P B) (e:offQ B w = .ok r):P r.1:=by
 unfold offQ at e;split at e
 ·contradiction
 ·rename_i y hy;split at e
  ·rename_i ho;cases e;exact Zib ok st (st h (Zhj (ok h) (Zd1 (x:=y.2) (j:=y.1) hy) ho))
  ·contradiction
theorem Zki (hd:∀ {B} d,P B→P { B with day:=d }) {B:Bk} {w:AV} {r:Bk×List Str} (h:P B) (e:Zhp B w = .ok r):P r.1:=by
 unfold Zhp at e;split at e
 ·cases e;exact Zib ok st (Zfy ok st (hd _ h) _)
 ·contradiction
end
section
variable {P:Bk→Prop} (ok:∀ {B},P B→BkOK B) (st:∀ {B B' j x},P B→Zmr B B' j x .dn→P B')
include ok st
theorem Zhl:∀ {g:List Str} {B:Bk},P B→g.Nodup→(∀ k∈g,∃ e:Nat×Pc,pAt B.pacts k=some e∧Zgx e.2=true)→P (Zdw g B)
 | [],_,h,_,_=>h
 | k::g,B,h,nd,hf=>by
  obtain ⟨⟨j,x⟩,h1,h2⟩:=hf k (.head _);obtain ⟨n1,n2⟩:=nodup_cons.mp nd;have hg:=Zbi h1;unfold Zdw;refine rl h1 ?_;refine Zhl (st h (Zpj (ok h) hg.1 h2)) n2 fun k' hk'=>?_;obtain ⟨⟨m,y⟩,h3,h4⟩:=hf k' (.tail _ hk');refine ⟨(m,y),Zwh hg.1 rfl h3 fun q=>n1 ?_,h4⟩;have hy:=Zbi h3;rw [q,hg.1] at hy;refine rl hg.2.symm (rl (osi hy.1) (rl hy.2 ?_));exact hk'
end
theorem Zov {ps:List Pc} (nd:(ps.map (·.name)).Nodup) {g:List Str} (hs:g.Sublist (Zcs ps)):g.Nodup∧∀ k∈g,∃ e:Nat×Pc,pAt ps k=some e∧Zgx e.2=true:=by
 refine ⟨(hs.trans (filter_sublist.map _)).nodup nd,fun k hk=>?_⟩;obtain ⟨x,hx,rfl⟩:=mem_map.mp (hs.subset hk);obtain ⟨hx,hf⟩:=mem_filter.mp hx;obtain ⟨j,hj,e⟩:=mem_iff_getElem.mp hx;exact ⟨(j,x),Zci nd (by exact rl (getElem?_eq_getElem hj) (rl e rfl)),hf⟩
end Mine
end
section
namespace Mine
structure PcOK (pur:List Str) (x:Pc):Prop where
 pk:(x.parts.map (·.1)).Nodup
 pm:∀ e∈x.parts,e.1∈pur∧1≤e.2
 gm:∀ e∈x.gains,e.1∈pur∧1≤e.2
 eq:sumL x.parts=sumL x.gains
 ins:∀ k∈x.inside,k∈x.parts.map (·.1)
 ind:x.inside.Nodup
 ln:x.parts.length≤8∧x.gains.length≤8∧x.needs.length≤8
 nm:isNm x.name=true
structure Inv (pur:List Str) (rs:List (Str×List (Str×Int))) (B:Bk) (tot:Int):Prop where
 nd:pur.Nodup
 pl:pur.length≤100
 fk:B.free.map (·.1)=pur
 ak:B.aside.map (·.1)=pur
 nn:∀ s,0≤vl B.free s
 ah:∀ s,vl B.aside s=sm B.pacts fun x=>sAt (held x) s
 tt:sumL B.free+sumL B.aside=tot
 pc:∀ x∈B.pacts,PcOK pur x
 nm:(B.pacts.map (·.name)).Nodup
 kp:B.pacts.map (fun x=>(x.name,x.parts))=rs
 len:B.pacts.length≤100
theorem Zpb {l:List (Str×Int)} {s:Str} (nd:(l.map (·.1)).Nodup):vl l s=sAt l s:=by
 induction l with
 | nil=>rfl
 | cons e l ih =>
  obtain ⟨h1,h2⟩:=nodup_cons.mp nd
  (refine rl Zfw ?_;dsimp only [Zeu])
  by_cases q:e.1=s
  ·exact rl (if_pos q ..) (rl (if_pos q ..) (rl (Zu3 (by rw [← q];exact h1) ..) (rl (add_zero ..) rfl)))
  ·refine rl (if_neg q ..) (rl (if_neg q ..) (rl (Int.zero_add ..) ?_));exact ih h2
theorem Zn8 {l:List (Str×Int)} {ins:List Str} {s:Str}:sAt (l.filter fun e=>decide (e.1∈ins)) s=if s∈ins then sAt l s else 0:=by
 induction l with
 | nil=>show 0=if s∈ins then 0 else (0:Int);exact rl (ite_self ..) rfl
 | cons e l ih =>
  (refine rl filter_cons ?_;dsimp only [Zeu])
  by_cases q:e.1=s
  ·refine rl q ?_;by_cases h:s∈ins
   ·(rw [if_pos (decide_eq_true h)];dsimp only [Zeu];rw [ih,if_pos h,if_pos h,if_pos q,if_pos rfl])
   ·exact rl (if_neg (fun z=>h (of_decide_eq_true z))) (rl ih (rl (if_neg h) (rl (if_neg h) rfl)))
  ·refine rl (if_neg q ..) (rl (Int.zero_add ..) (rl (Eq.symm (ih ..)) ?_));split
   ·(dsimp only [Zeu];exact rl (if_neg q ..) (rl (Int.zero_add ..) rfl))
   ·rfl
theorem Zk0 {x:Pc} {s:Str}:sAt (held x) s=if s∈x.inside then sAt x.parts s else 0:=Zn8
section
variable {pur:List Str} {rs:List (Str×List (Str×Int))} {B B':Bk} {tot:Int} {j:Nat} {x x':Pc}
theorem Zb9 {l:List (Str×Int)} (h:l.map (·.1)=pur) {k:Str}:hs l k=true↔k∈pur:=by rw [Zre,h,decide_eq_true_eq]
theorem PcOK.hm (p:PcOK pur x):∀ e∈held x,e.1∈pur∧1≤e.2:=fun e he=>p.pm e (mem_filter.mp he).1
theorem PcOK.full (p:PcOK pur x) (h:Zgx x=true):held x=x.parts:=by
 have hl:x.inside.length=x.parts.length:=beq_iff_eq.mp (Bool.and_eq_true _ _▸h:_∧_).2;refine List.filter_eq_self.mpr fun e he=>decide_eq_true ?_;exact Zy1 p.ind p.ins (by refine rl (length_map ..) (rl (hl ..) ?_);exact le_refl _) (mem_map.mpr ⟨e,he,rfl⟩)
theorem Inv.at (I:Inv pur rs B tot) (hj:B.pacts[j]? = some x):PcOK pur x:=I.pc x (mem_of_getElem? hj)
theorem Inv.ok (I:Inv pur rs B tot):BkOK B:=by
 have l1:B.free.length=pur.length:=by exact rl (Eq.symm (I.fk ..)) (rl (length_map ..) rfl)
 have l2:B.aside.length=pur.length:=by exact rl (Eq.symm (I.ak ..)) (rl (length_map ..) rfl)
 refine ⟨⟨by refine rl l1 ?_;exact le_trans I.pl (by decide),by refine rl l2 ?_;exact le_trans I.pl (by decide)⟩,fun k hk=>(Zb9 I.ak).mpr ((Zb9 I.fk).mp hk),I.len,fun j x hx k hk=>?_,fun j x hx=>?_,fun j x hx e he=>?_⟩
 ·exact (Zb9 rfl).mpr ((I.at hx).ins k hk)
 ·have p:=I.at hx;have l8:(8:Nat)≤100:=by decide
  refine ⟨?_,le_trans p.ln.1 l8,le_trans p.ln.2.1 l8,le_trans p.ln.2.2 l8⟩;have:=Zqt p.ind p.ins;rw [length_map] at this;exact le_trans this (le_trans p.ln.1 l8)
 ·refine (Zb9 I.fk).mpr ?_;rcases he with he | he
  ·exact ((I.at hx).pm e he).1
  ·exact ((I.at hx).gm e he).1
theorem Inv.an (I:Inv pur rs B tot) (s:Str):0≤vl B.aside s:=by
 refine rl (I.ah ..) ?_;exact Zx6 fun x hx=>Zpu fun e he=>((I.pc x hx).hm e he).2
theorem Zg3 {α β:Type} {f:α→β} {l:List α} {j:Nat} {x y:α} (h:l[j]? = some x) (e:f y=f x):(l.set j y).map f=l.map f:=by
 induction l generalizing j with
 | nil=>rfl
 | cons a l ih =>
  cases j with
  | zero=>obtain rfl:=osi h;refine rl set_cons_zero (rl map_cons (rl e ?_));rfl
  | succ j=>exact rl set_cons_succ (rl map_cons (rl map_cons (rl (ih h) rfl)))
theorem Inv.turn {df da:Str→Int} (I:Inv pur rs B tot) (hj:B.pacts[j]? = some x) (p':PcOK pur x') (hn:(x'.name,x'.parts)=(x.name,x.parts)) (ps:B'.pacts=B.pacts.set j x') (f:Dif B.free B'.free df) (a:Dif B.aside B'.aside da) (nn:∀ s,0≤vl B'.free s) (hd:∀ s,sAt (held x') s=sAt (held x) s+da s) (ht:sm pur df+sm pur da=0):Inv pur rs B' tot:=by
 refine ⟨I.nd,I.pl,f.k.trans I.fk,a.k.trans I.ak,nn,fun s=>?_,?_,fun y hy=>?_,by refine rl ps (rl (Zh1 hj (Prod.mk.inj hn).1) ?_);exact I.nm,by refine rl ps (rl (Zg3 hj hn) ?_);exact I.kp,by refine rl ps (rl length_set ?_);exact I.len⟩
 ·refine rl (a.v ..) (rl (I.ah ..) (rl (ps ..) (rl (Zx5 hj ..) (rl (hd ..) ?_))));lia
 ·have e1:=f.sum (by refine rl I.fk ?_;exact I.nd);have e2:=a.sum (by refine rl I.ak ?_;exact I.nd);rw [I.fk] at e1;rw [I.ak] at e2;have:=I.tt;lia
 ·rw [ps] at hy;obtain ⟨m,hm,rfl⟩:=mem_iff_getElem.mp hy;rcases Zhm (getElem?_eq_getElem hm) with ⟨_,e,_⟩ | ⟨_,h⟩
  ·refine rl e ?_;exact p'
  ·exact I.at h
theorem Zx7 {l:List Str} {f:Str→Int}:sm l (fun s=>- f s) = - sm l f:=by
 induction l with
 | nil=>rfl
 | cons a l ih=>show - f a+sm l _ = - (f a+sm l f);exact rl ih (rl Int.neg_add rfl)
set_option tactic.hygienic true in
theorem Inv.step {st:Sta} (I:Inv pur rs B tot) (h:Zmr B B' j x st):Inv pur rs B' tot:=by
 have p:=I.at h.at_;have hg:gone x st=held x:=by
  unfold gone;split
  ·rename_i e;rcases h.hw with z | z
   ·rw [z] at e;contradiction
   ·exact (p.full z.2).symm
  ·rfl
 have hb:∀ e∈back x st,e.1∈pur∧1≤e.2:=by
  unfold back;split
  ·exact p.gm
  ·exact p.hm
 have hs:sumL (back x st)=sumL (held x):=by
  unfold back;split
  ·rename_i e;refine rl hg.symm ?_;unfold gone;refine rl (if_pos e) ?_;exact p.eq.symm
  ·rfl
 refine I.turn h.at_ (x':=x.end st) ⟨p.pk,p.pm,p.gm,p.eq,(fun k hk=>by contradiction),nodup_nil,p.ln,p.nm⟩ rfl h.ps h.f h.a (fun s=>?_) (fun s=>?_) ?_
 ·refine rl (h.f.v ..) ?_;exact add_nonneg (I.nn s) (Zpu fun e he=>(hb e he).2)
 ·refine rl hg (rl Zk0 (rl (if_neg (show ¬ s∈(x.end st).inside from fun z=>by contradiction)) ?_));lia
 ·refine rl hg (rl Zx7 (rl (Zlv I.nd fun e he=>(hb e he).1) (rl (Zlv I.nd fun e he=>(p.hm e he).1) (rl hs ?_))));lia
theorem Inv.day (I:Inv pur rs B tot) (d:Int):Inv pur rs { B with day:=d } tot:=⟨I.nd,I.pl,I.fk,I.ak,I.nn,I.ah,I.tt,I.pc,I.nm,I.kp,I.len⟩
theorem Inv.off {w:AV} {r:Bk×List Str} (I:Inv pur rs B tot) (h:offQ B w = .ok r):Inv pur rs r.1 tot:=Znb (P:=fun B=>Inv pur rs B tot) (fun I=>I.ok) (fun I h=>I.step h) I h
theorem Inv.pass {w:AV} {r:Bk×List Str} (I:Inv pur rs B tot) (h:Zhp B w = .ok r):Inv pur rs r.1 tot:=Zki (P:=fun B=>Inv pur rs B tot) (fun I=>I.ok) (fun I h=>I.step h) (fun d I=>I.day d) I h
theorem Inv.settle {g:List Str} (I:Inv pur rs B tot) (h:g.Sublist (Zcs B.pacts)):Inv pur rs (Zdw g B) tot :=
 have:=Zov I.nm h
 Zhl (P:=fun B=>Inv pur rs B tot) (fun I=>I.ok) (fun I h=>I.step h) I this.1 this.2
theorem Inv.free {k:Str} {i:Int} (I:Inv pur rs B tot) (hk:k∈pur) (h0:0≤vl B.free k+i):Inv pur rs { B with free:=pt B.free k ((lk B.free k).getD 0+i) } (tot+i):=by
 have d:=Dif.pt (i:=i) ((Zb9 I.fk).mpr hk);refine ⟨I.nd,I.pl,d.k.trans I.fk,I.ak,fun s=>?_,I.ah,?_,I.pc,I.nm,I.kp,I.len⟩
 ·show 0≤vl (pt B.free k _) s;refine rl Zj5 ?_;split
  ·exact h0
  ·exact I.nn s
 ·have e1:=d.sum (by refine rl I.fk ?_;exact I.nd);rw [I.fk,Zm2 I.nd hk] at e1;have:=I.tt;lia
end
end Mine
end
section
namespace Mine
section
variable {pur:List Str} {rs:List (Str×List (Str×Int))} {B B':Bk} {tot:Int} {j:Nat} {x x':Pc} {v w a:AV}
theorem Inv.put (I:Inv pur rs B tot) (h:putQ B v a = .ok B'):Inv pur rs B' (tot+Zh6 a):=by
 obtain ⟨hp,h⟩:=Zcw h;obtain ⟨ha,h⟩:=Zcw h;cases h;refine I.free ((Zb9 I.fk).mp (Zbr hp).2) (add_nonneg (I.nn _) ?_);cases a with
 | int i=>exact Int.le_trans (by decide) (of_decide_eq_true ha).1
 | _=>contradiction
theorem Inv.take (I:Inv pur rs B tot) (h:Z0n B v a = .ok B'):Inv pur rs B' (tot+(0 - Zh6 a)):=by
 obtain ⟨hp,h⟩:=Zcw h;obtain ⟨hl,h⟩:=Zf0 (Zcw h).2;cases h;refine rl (Int.zero_sub ..) ?_;exact I.free ((Zb9 I.fk).mp (Zbr hp).2) (Int.sub_nonneg.mpr (Int.not_lt.mp hl))
theorem Inv.ins {k:Str} {i:Int} {ins:List Str} (I:Inv pur rs B tot) (hj:B.pacts[j]? = some x) (hk:k∈pur) (hi:∀ s∈ins,s∈x.parts.map (·.1)) (hnd:ins.Nodup) (h0:0≤vl B.free k + - i) (hd:∀ s,(if s∈ins then sAt x.parts s else 0)=(if s∈x.inside then sAt x.parts s else 0)+if k=s then i else 0) :
  Inv pur rs { B with pacts:=B.pacts.set j { x with inside:=ins },free:=pt B.free k ((lk B.free k).getD 0 + - i),aside:=pt B.aside k ((lk B.aside k).getD 0+i) } tot:=by
 have p:=I.at hj;refine I.turn (x':={ x with inside:=ins }) hj ⟨p.pk,p.pm,p.gm,p.eq,hi,hnd,p.ln,p.nm⟩ rfl rfl (Dif.pt ((Zb9 I.fk).mpr hk)) (Dif.pt ((Zb9 I.ak).mpr hk)) (fun s=>?_) (fun s=>?_) ?_
 ·show 0≤vl (pt B.free k _) s;refine rl Zj5 ?_;split
  ·exact h0
  ·exact I.nn s
 ·refine rl Zk0 (rl Zk0 ?_);exact hd s
 ·refine rl (Zm2 I.nd hk) (rl (Zm2 I.nd hk) ?_);lia
theorem Inv.aside (I:Inv pur rs B tot) (h:Zf3 B v w = .ok B'):Inv pur rs B' tot:=by
 obtain ⟨hp,h⟩:=Zcw h;cases hx:Zcm B w with
 | none=>rw [hx] at h;cases h
 | some jx =>
 obtain ⟨j,x⟩:=jx;rw [hx] at h;have hj:=Zd1 hx;have p:=I.at hj;replace h:=(Zcw h).2;cases hi:lk x.parts (Za2 v) with
 | none=>rw [hi] at h;cases h
 | some i =>
 rw [hi] at h;obtain ⟨hin,h⟩:=Zf0 h;obtain ⟨hl,h⟩:=Zf0 h;cases h;have hv:sAt x.parts (Za2 v)=i:=by refine rl (Eq.symm (Zpb p.pk)) ?_;unfold vl;refine rl hi ?_;rfl
 have hkp:Za2 v∈x.parts.map (·.1):=(Zb9 rfl).mp (by unfold hs;refine rl hi ?_;rfl);refine I.ins hj ((Zb9 I.fk).mp (Zbr hp).2) (fun s hs=>?_) ?_ (Int.sub_nonneg.mpr (Int.not_lt.mp hl)) fun s=>?_
 ·rcases mem_append.mp hs with hs | hs
  ·exact p.ins s hs
  ·refine rl (mem_singleton.mp hs) ?_;exact hkp
 ·refine nodup_append.mpr ⟨p.ind,nodup_cons.mpr ⟨not_mem_nil,nodup_nil⟩,fun a ha b hb=>?_⟩;refine rl (mem_singleton.mp hb) ?_;exact fun e=>hin (e▸ha)
 ·by_cases e:Za2 v=s
  ·refine rl (if_pos e) (rl e.symm (rl (if_pos (mem_append_right _ (.head _))) (rl (if_neg hin) (rl hv ?_))));exact (Int.zero_add _).symm
  ·refine rl (if_neg e ..) (rl (add_zero ..) ?_);have:s∈x.inside++[Za2 v]↔s∈x.inside:=⟨fun h=>(mem_append.mp h).resolve_right fun z=>e (mem_singleton.mp z).symm,fun h=>mem_append_left _ h⟩
   exact ite_congr (propext this) (fun _=>rfl) fun _=>rfl
theorem Inv.draw (I:Inv pur rs B tot) (h:Z1q B v w = .ok B'):Inv pur rs B' tot:=by
 obtain ⟨hp,h⟩:=Zcw h;cases hx:Zcm B w with
 | none=>rw [hx] at h;cases h
 | some jx =>
 obtain ⟨j,x⟩:=jx;rw [hx] at h;have hj:=Zd1 hx;have p:=I.at hj;obtain ⟨hin,h⟩:=Zcw (Zcw h).2;cases h;have hv:(lk x.parts (Za2 v)).getD 0=sAt x.parts (Za2 v):=Zpb p.pk;have hge:0≤sAt x.parts (Za2 v):=Zpu fun e he=>(p.pm e he).2;refine rl hv ?_;have:=I.ins (ins:=x.inside.filter (·≠Za2 v)) (i:=- sAt x.parts (Za2 v)) hj ((Zb9 I.fk).mp (Zbr hp).2) (fun s hs=>p.ins s (mem_filter.mp hs).1) (p.ind.sublist filter_sublist) (by refine rl (Int.neg_neg ..) ?_;exact add_nonneg (I.nn _) hge) fun s=>?_
 ·rw [Int.neg_neg] at this;exact this
 ·by_cases e:Za2 v=s
  ·exact rl (if_pos e ..) (rl (Eq.symm (e ..)) (rl (if_neg (show ¬ Za2 v∈x.inside.filter (·≠Za2 v) from fun z=>(of_decide_eq_true (mem_filter.mp z).2:Za2 v≠Za2 v) rfl) ..) (rl (if_pos hin ..) (rl (Int.add_right_neg ..) rfl))))
  ·refine rl (if_neg e ..) (rl (add_zero ..) ?_);have:s∈x.inside.filter (·≠Za2 v)↔s∈x.inside:=⟨fun h=>(mem_filter.mp h).1,fun h=>mem_filter.mpr ⟨h,decide_eq_true fun z=>e z.symm⟩⟩
   exact ite_congr (propext this) (fun _=>rfl) fun _=>rfl
structure Prs (B:Bk) (l:List (AV×AV)) (ps:List (Str×Int)):Prop where
 is:ps.map (fun e=>(AV.str e.1,AV.int e.2))=l
 nd:(ps.map (·.1)).Nodup
 mem:∀ e∈ps,hs B.free e.1=true∧1≤e.2
 len:ps.length≤8
theorem Zp7 {l:List (AV×AV)} {acc r:List (Str×Int)} (nd:(acc.map (·.1)).Nodup) (h:Zfl B l acc = .ok r):∃ s,r=acc++s∧s.map (fun e=>(AV.str e.1,AV.int e.2))=l∧((acc++s).map (·.1)).Nodup∧∀ e∈s,hs B.free e.1=true∧1≤e.2:=by
 induction l generalizing acc with
 | nil=>cases h;exact ⟨[],(append_nil _).symm,rfl,by refine rl (append_nil ..) ?_;exact nd,fun e he=>by cases he⟩
 | cons p l ih =>
  obtain ⟨x,y⟩:=p;obtain ⟨hp,h⟩:=Zcw h;obtain ⟨hm,h⟩:=Zf0 h;obtain ⟨ha,h⟩:=Zcw h;cases y with
  | int i =>
   obtain ⟨hx,hk⟩:=Zbr hp;have nd':((acc++[(Za2 x,i)]).map (·.1)).Nodup:=by
    rw [map_append,nodup_append];refine ⟨nd,nodup_cons.mpr ⟨not_mem_nil,nodup_nil⟩,fun a ha b hb=>?_⟩;refine rl (mem_singleton.mp (show b∈[Za2 x] from hb)) ?_;exact fun e=>hm (e▸ha)
   obtain ⟨s,rfl,h2,h3,h4⟩:=ih nd' h;refine ⟨(Za2 x,i)::s,by rw [append_assoc];rfl,by rw [map_cons,h2,← hx],by rw [append_assoc] at h3;exact h3,fun e he=>?_⟩;rcases mem_cons.mp he with rfl | he
   ·exact ⟨hk,(of_decide_eq_true ha).1⟩
   ·exact h4 e he
  | _=>contradiction
theorem Zkk {l:List (AV×AV)} {r:List (Str×Int)} (h:Zem B l = .ok r):Prs B l r:=by
 obtain ⟨hl,h⟩:=Zcw h;obtain ⟨s,rfl,h2,h3,h4⟩:=Zp7 (acc:=[]) nodup_nil h;rw [nil_append] at h3;rw [← h2,length_map] at hl;exact ⟨h2,h3,h4,hl.2⟩
theorem Zqq {k:Str} {l:List AV} {u:Unit} (h:Zfq B k l = .ok u):l.length≤8:=(Zcw h).1
theorem Zvx {last:AV} {pL gL:List (AV×AV)} {nL:List AV} (h:Zka B v pL gL nL last = .ok B'):∃ x:Pc,B' = { B with pacts:=B.pacts++[x] }∧v = .str x.name∧pAt B.pacts x.name=none∧Prs B pL x.parts∧Prs B gL x.gains∧sumL x.parts=sumL x.gains∧x.needs.length≤8∧x.inside=[]∧x.state = .opn∧isNm x.name=true:=by
 obtain ⟨hn,h⟩:=Zcw h;obtain ⟨ht,h⟩:=Zf0 h;obtain ⟨ps,hps,h⟩:=bnd h;obtain ⟨gs,hgs,h⟩:=bnd h;obtain ⟨he,h⟩:=Zf0 h;obtain ⟨u,hnl,h⟩:=bnd h;replace h:=(Zcw h).2;cases h;refine ⟨_,rfl,Zeb hn,?_,Zkk hps,Zkk hgs,Classical.not_not.mp he,?_,rfl,rfl,by rw [Zeb hn] at hn;exact hn⟩
 ·cases e:pAt B.pacts (Za2 v) with
  | none=>rfl
  | some z=>rw [e] at ht;exact absurd rfl ht
 ·show (nL.map Za2).length≤8;refine rl (length_map ..) ?_;exact Zqq hnl
theorem Inv.tell {last:AV} {pL gL:List (AV×AV)} {nL:List AV} (I:Inv pur rs B tot) (hl:B.pacts.length<100) (h:Zka B v pL gL nL last = .ok B'):∃ k ps,v = .str k∧ps.map (fun e=>(AV.str e.1,AV.int e.2))=pL∧Inv pur (rs++[(k,ps)]) B' tot:=by
 obtain ⟨x,rfl,hv,hn,pp,gg,hs,hnl,hi,ho,hnm⟩:=Zvx h;have h0:∀ s,sAt (held x) s=0:=fun s=>by exact rl Zk0 (rl hi (rl (if_neg not_mem_nil) rfl))
 refine ⟨x.name,x.parts,hv,pp.is,I.nd,I.pl,I.fk,I.ak,I.nn,fun s=>?_,I.tt,fun y hy=>?_,?_,by refine rl map_append (rl I.kp ?_);rfl,?_⟩
 ·refine rl Zpn ?_;show _=_+(sAt (held x) s+0);refine rl (h0 ..) (rl (I.ah ..) ?_);exact (add_zero _).symm
 ·rcases mem_append.mp hy with hy | hy
  ·exact I.pc y hy
  ·refine rl (mem_singleton.mp hy) ?_;exact ⟨pp.nd,fun e he=>⟨(Zb9 I.fk).mp (pp.mem e he).1,(pp.mem e he).2⟩,fun e he=>⟨(Zb9 I.fk).mp (gg.mem e he).1,(gg.mem e he).2⟩,hs,(by refine rl hi ?_;exact fun k hk=>(by contradiction)),(by refine rl hi ?_;exact nodup_nil),⟨pp.len,gg.len,hnl⟩,hnm⟩
 ·refine rl map_append ?_;refine nodup_append.mpr ⟨I.nm,nodup_cons.mpr ⟨not_mem_nil,nodup_nil⟩,fun a ha b hb e=>?_⟩;rw [mem_singleton.mp hb] at e;obtain ⟨z,hz⟩:=Zga (e▸ha);rw [hn] at hz;contradiction
 ·refine rl length_append ?_;exact hl
set_option tactic.hygienic true in
theorem Inv.open (I:Inv pur rs B tot) (hp:B.pacts=[]) (hl:pur.length<100) (h:Zkn B v = .ok B'):Inv (pur++[Za2 v]) rs B' tot∧B'.pacts=[]:=by
 unfold Zkn at h;split at h
 ·split at h
  ·contradiction
  ·rename_i ht;cases h;have n1:Za2 v ∉ pur:=fun z=>ht ((Zb9 I.fk).mpr z);have e:∀ {l:List (Str×Int)},l.map (·.1)=pur→pt l (Za2 v) 0=l++[(Za2 v,0)]:=fun {l} hk=>if_neg fun z=>n1 ((Zb9 hk).mp z);have z:∀ {l:List (Str×Int)} {s:Str},0≤vl l s→0≤vl (pt l (Za2 v) 0) s:=fun h=>by
    refine rl Zj5 ?_;split
    ·exact Int.le_refl 0
    ·exact h
   refine ⟨⟨?_,by refine rl length_append ?_;exact hl,?_,?_,fun s=>z (I.nn s),fun s=>?_,?_,by refine rl (show ({ B with free:=pt B.free (Za2 v) 0,aside:=pt B.aside (Za2 v) 0 }:Bk).pacts=[] from hp) ?_;exact fun x hx=>(by contradiction),I.nm,I.kp,I.len⟩,hp⟩
   ·refine nodup_append.mpr ⟨I.nd,nodup_cons.mpr ⟨not_mem_nil,nodup_nil⟩,fun a ha b hb q=>?_⟩;rw [mem_singleton.mp hb] at q;exact n1 (q▸ha)
   ·show (pt B.free _ _).map _=_;refine rl (e I.fk) (rl map_append (rl I.fk ?_));rfl
   ·show (pt B.aside _ _).map _=_;refine rl (e I.ak) (rl map_append (rl I.ak ?_));rfl
   ·have:=I.ah s;show vl (pt B.aside _ _) s=sm B.pacts _;rw [hp] at this ⊢;refine rl Zj5 ?_;split
    ·rfl
    ·exact this
   ·have:=I.tt;have s0:∀ {l:List (Str×Int)},sumL (l++[(Za2 v,0)])=sumL l:=fun {l}=>(Zpn (l:=l) (f:=(·.2))).trans (add_zero _);refine rl (e I.fk) (rl (e I.ak) (rl s0 (rl s0 ?_)));exact this
 ·contradiction
theorem inv0:Inv [] [] ⟨0,[],[],[]⟩ 0:=⟨nodup_nil,zero_le _,rfl,rfl,fun _=>Int.le_refl 0,fun _=>rfl,rfl,(fun x hx=>by contradiction),nodup_nil,rfl,zero_le _⟩
end
end Mine
end
section
namespace Mine
theorem Zvw {QN:VV→Zaa→Prop} {stp:AV→(VV→Zaa→Prop)→VV→Zaa→Prop} {z:Addr} {V:VV} {H:Zaa} {m:Int} (hz:H z=some (.range 0 m)) (J:Nat→VV→Zaa→Prop) (h0:J 0 V H)
  (hs:∀ I:Nat→VV→Zaa→Prop,(∀ k V' H',J k V' H'→I k V' H')→∀ k V' H',J k V' H'→H' z=some (.range 0 m)∧(k=m.toNat→QN V' H')∧(k<m.toNat→stp (.int k) (I (k+1)) V' H')):WFor QN stp (.ref z) V H:=by
 refine Zdb (xs:=(List.range (m - 0).toNat).map fun (k:Nat)=>AV.int (0+k)) (by simp only [Zal,hz]) J h0 fun I hI k V' H' hJ=>?_;have t7156:=hs I hI k V' H' hJ;have h1:=t7156.1;have h2:=t7156.2.1;have h3:=t7156.2.2;have hl:((List.range (m - 0).toNat).map fun (k:Nat)=>AV.int (0+k)).length=m.toNat:=by exact rl (length_map ..) (rl (length_range ..) (rl (sub_zero ..) rfl))
 refine ⟨h1.trans hz.symm,fun e=>h2 (e.trans hl),fun x hx=>?_⟩;rw [getElem?_map,map_eq_some_iff] at hx;obtain ⟨j,hj,rfl⟩:=hx;have t7158:=gsi hj;have hj1:=t7158.1;have hj2:=t7158.2;rw [List.getElem_range] at hj2;rw [length_range,sub_zero] at hj1;refine rl (Eq.symm (hj2 ..)) (rl (Int.zero_add ..) ?_);exact h3 hj1
set_option tactic.hygienic true in
theorem Ztm {md:Bool} {Q:AV→Zaa→Prop} {H:Zaa} {m:Int} (h0:0≤m) (h1:m≤100000) (q:∀ z H',H z=none→Ext H H'→H' z=some (.range 0 m)→Q (.ref z) H'):Zc1 md .range [.int m] Q H:=by
 refine rl Zf8 ?_;exact ⟨⟨by lia,by exact Int.lt_of_le_of_lt (by assumption) (by decide)⟩,fun z hz=>q z _ hz (Ext.refl.new hz) Zac⟩
noncomputable def P2 (l:List (Str×Int)):List (AV×AV):=l.map fun e=>(.str e.1,.int e.2)
theorem Zvq {l:List (Str×Int)}:(P2 l).length=l.length:=length_map _
theorem pairsH.keep {H H':Zaa} (k:∀ a v,H a=some (.tuple v)→H' a=some (.tuple v)):∀ {ts:List Addr} {l:List (AV×AV)},pairsH H ts l→pairsH H' ts l
 | [],[],_=>trivial
 | _::_,_::_,h=>⟨⟨rfl,k _ _ h.1.2.1,h.1.2.2⟩,pairsH.keep k h.2⟩
 | [],_::_,h=>h.elim
 | _::_,[],h=>h.elim
inductive PL (H:Zaa) (a:Addr) (l:List (Str×Int)):Prop
 | mk (ts:List Addr) (h:H a=some (.list (ts.map .ref))) (p:pairsH H ts (P2 l))
theorem PL.ext {H H':Zaa} {a:Addr} {l:List (Str×Int)} (p:PL H a l) (e:Ext H H'):PL H' a l:=let ⟨ts,h,p⟩:=p;⟨ts,e _ _ h,p.ext e⟩
theorem PL.kb {H H':Zaa} {a b:Addr} {l:List (Str×Int)} {B:Bk} (p:PL H a l) (hb:H b=some (.book B)) (e:Kb b H H'):PL H' a l :=
 have ne:∀ {y x},H y=some x→x.isB=false→y≠b:=fun h hx q=>by rw [q,hb] at h;cases h;cases hx
 let ⟨ts,h,p⟩:=p
 ⟨ts,e _ _ (ne h rfl) h,p.keep fun a v h=>e _ _ (ne h rfl) h⟩
inductive RowAt (H:Zaa) (t:Addr) (nm:Str) (ps:List (Str×Int)):Prop
 | mk (pl gl nl:Addr) (gs:List (Str×Int)) (ns:List Str) (last:Int) (ht:H t=some (.tuple [.str nm,.ref pl,.ref gl,.ref nl,.int last])) (hp:PL H pl ps) (hg:PL H gl gs) (hn:H nl=some (.list (txs ns))) (l0:1≤ps.length) (l1:ps.length≤100) (l2:gs.length≤100) (l3:ns.length≤100) (kn:Kv (.str nm)) (kk:∀ k∈ns,Kv (.str k))
theorem RowAt.ext {H H':Zaa} {t:Addr} {nm:Str} {ps:List (Str×Int)} (r:RowAt H t nm ps) (e:Ext H H'):RowAt H' t nm ps :=
 let ⟨pl,gl,nl,gs,ns,last,ht,hp,hg,hn,l0,l1,l2,l3,kn,kk⟩:=r
 ⟨pl,gl,nl,gs,ns,last,e _ _ ht,hp.ext e,hg.ext e,e _ _ hn,l0,l1,l2,l3,kn,kk⟩
theorem RowAt.kb {H H':Zaa} {b t:Addr} {nm:Str} {ps:List (Str×Int)} {B:Bk} (r:RowAt H t nm ps) (hb:H b=some (.book B)) (e:Kb b H H'):RowAt H' t nm ps :=
 have ne:∀ {y x},H y=some x→x.isB=false→y≠b:=fun h hx q=>by rw [q,hb] at h;cases h;cases hx
 let ⟨pl,gl,nl,gs,ns,last,ht,hp,hg,hn,l0,l1,l2,l3,kn,kk⟩:=r
 ⟨pl,gl,nl,gs,ns,last,e _ _ (ne ht rfl) ht,hp.kb hb e,hg.kb hb e,e _ _ (ne hn rfl) hn,l0,l1,l2,l3,kn,kk⟩
end Mine
end
section
namespace Mine
section
variable {B:Bk} {v w a:AV}
end
end Mine
end
section
namespace Mine
section
variable {α:Type} {xs:List α}
theorem Zn9 (a m:Nat) (h:a+m≤xs.length):((List.range m).map fun (k:Nat)=>((a:Int)+1*(k:Int)).toNat).filterMap (xs[·]?)=(xs.drop a).take m:=by
 induction m with
 | zero=>refine rl take_zero ?_;rfl
 | succ m ih =>
  have hlt:a+m<xs.length:=h;refine rl range_succ (rl map_append (rl List.filterMap_append (rl (ih (le_of_lt hlt)) (rl take_add_one (rl (List.getElem?_drop) ?_)))));congr 1;show [((a:Int)+1*(m:Int)).toNat].filterMap _=_;refine rl (show ((a:Int)+1*(m:Int)).toNat=a+m by lia) (rl filterMap_cons (rl (getElem?_eq_getElem hlt) ?_));rfl
theorem Zwd {lo hi st:Option Int} {a b:Nat} (hb:sliceBounds lo hi st xs.length=((a:Int),(b:Int),1)) (h:a≤b) (h':b≤xs.length):Zb1 xs lo hi st=(xs.drop a).take (b - a):=by
 unfold Zb1;refine rl hb ?_;unfold sliceRange;dsimp only;refine rl (if_pos (by decide)) ?_;by_cases e:a=b
 ·refine rl (if_neg (by lia) ..) (rl (e ..) (rl (sub_self ..) (rl (take_zero ..) ?_)));rfl
 ·refine rl (if_pos (by lia) ..) (rl (show ((b:Int) - a+1 - 1) / 1=((b - a:Nat):Int) by lia) (rl (toNat_natCast ..) ?_));exact Zn9 a (b - a) (by lia)
theorem Zp2 {m:Nat}:Zb1 xs none (some (m:Int)) none=xs.take m:=by
 have:=Zwd (xs:=xs) (lo:=none) (hi:=some (m:Int)) (st:=none) (a:=0) (b:=min m xs.length) (by
  unfold sliceBounds;dsimp only [Option.getD];simp only [show ¬ ((m:Int)<0) from by lia,show ((1:Int) > 0) from by decide,if_true,if_false];congr 2;lia) (zero_le _) (Nat.min_le_right _ _)
 refine rl (this ..) (rl (drop_zero ..) (rl (Nat.sub_zero ..) ?_));by_cases h:m≤xs.length
 ·exact rl (min_eq_left h) rfl
 ·exact rl (Nat.min_eq_right (by lia)) (rl take_length (rl (List.take_of_length_le (by lia)) rfl))
end
theorem Zc2 {Q:AV→Zaa→Prop} {H:Zaa} {a:Addr} {xs:List AV} {lo hi st:Option AV} {l u t:Option Int} (h:H a=some (.list xs)) (hl:Zii lo=some l) (hu:Zii hi=some u) (ht:Zii st=some t) (h0:t≠some 0) (hz:xs.length≤1000)
  (q:∀ z H',Ext H H'→H z=none→H' z=some (.list (Zb1 xs l u t))→Q (.ref z) H'):Zg9 (.ref a) lo hi st Q H:=by
 refine rl Zu1 (rl h ?_);exact ⟨l,u,t,hl,hu,ht,h0,le_trans hz (by decide),fun z hz=>q z _ (Ext.refl.new hz) hz Zac⟩
theorem Zxu (x:Int):IntMulOk 2 (x.fmod 2)∧(1 - 2*x.fmod 2=1∨1 - 2*x.fmod 2 = -1):=by
 have h0:=Za8 (x:=x) (m:=2) (by decide);have h1:=Zbj (x:=x) (m:=2) (by decide);exact ⟨IntMulOk.of_left (by decide +kernel),by lia⟩
end Mine
end
section
namespace Mine
theorem Zmm {i:Int} (h0:0≤i) (h1:i<26):letters.cps.toList.contains (chI i)=true:=by
 have hlt:i.toNat<letters.cps.size:=by refine rl Zgr ?_;lia
 have:chI i=letters.cps[i.toNat]:=by simp [chI,hlt]
 rw [this,contains_iff_mem];exact Array.mem_toList_iff.mpr (Array.getElem_mem hlt)
theorem Zfr (r:Int):∀ j,∀ ch∈(Zd3 r j).1,letters.cps.toList.contains ch=true
 | 0=>by intro ch h;cases h
 | j+1=>by
  intro ch h;rcases mem_append.mp h with h | h
  ·exact Zfr r j ch h
  ·rw [mem_singleton] at h;subst h;exact Zmm (Za8 (by omega)) (Zbj (by omega))
theorem Zmv {k:Int}:∀ ch∈Zdn k,letters.cps.toList.contains ch=true:=by
 intro ch h;simp only [Zdn,mem_cons,not_mem_nil,or_false] at h;rcases h with rfl | rfl<;>exact Zmm (Za8 (by omega)) (Zbj (by omega))
set_option tactic.hygienic true in
theorem Zvt {k cl:Int} (hk:0≤k):isNm (word k cl)=true:=by
 have h1:∀ ch∈Zd6 k cl,letters.cps.toList.contains ch=true:=by
  unfold Zd6;intro ch h;split at h
  ·dsimp only at h;split at h
   ·rename_i z;rw [mem_singleton] at h;subst h;exact Zmm hk z.2
   ·rcases mem_append.mp h with h | h
    ·exact Zmv ch h
    ·exact Zfr _ _ ch h
  ·dsimp only at h;rcases mem_append.mp h with h | h
   ·rcases mem_append.mp h with h | h
    ·exact Zfr _ _ ch (mem_of_mem_take h)
    ·exact Zmv ch h
   ·exact Zfr _ _ ch (List.mem_of_mem_drop h)
 have h2:1≤(word k cl).length:=by
  show 1≤(Zd6 k cl).toArray.size;unfold Zd6;simp only [size_toArray];split
  ·split<;>simp [Zdn]<;>lia
  ·simp [Zdn];lia
 have h3:(word k cl).length≤12:=Zsl;unfold isNm;refine rl (Bool.and_eq_true ..) ?_;refine ⟨by simp [h2,h3],all_eq_true.mpr fun ch hc=>h1 ch ?_⟩;simpa [word] using hc
theorem Kv.nm {s:Str} (h:isNm s=true):Kv (.str s):=.str (by
 unfold isNm at h;rw [Bool.and_eq_true,decide_eq_true_eq] at h;exact lt_of_le_of_lt h.1.2 (by decide))
noncomputable def Zei (cl:Int) (m:Nat):List Str:=(List.range m).map fun k=>word (k:Nat) cl
theorem Zo8 {cl:Int} {m:Nat}:(Zei cl m).length=m:=by unfold Zei;exact rl (length_map ..) (rl (length_range ..) rfl)
theorem Zsi {cl:Int} {m:Nat}:∀ s∈Zei cl m,isNm s=true:=fun s h=>by
 obtain ⟨k,_,rfl⟩:=mem_map.mp h;exact Zvt (natCast_nonneg k)
theorem Zsj {cl:Int} {m:Nat} (hm:m≤600):(Zei cl m).Nodup:=by
 unfold Zei;refine List.pairwise_map.mpr ((List.nodup_range (n:=m)).imp_of_mem fun {a b} ha hb h e=>h ?_);have h1:=mem_range.mp ha;have h2:=mem_range.mp hb;have:=Zsm (natCast_nonneg a) (by lia) (natCast_nonneg b) (by lia) e;lia
section
variable {c:Cx} {P:Pg} (G:Gd c P) {n:Nat} {md:Bool} {V:VV} {Q:AV→Zaa→Prop} {E:String→Zaa→Prop} {H:Zaa} {sp:Addr} {ns:List Int}
theorem Zes {a b:Addr} {xs ys:List AV} (ha:H a=some (.list xs)) (hb:H b=some (.list ys)) (hs:xs.length+ys.length≤1000) (q:∀ z,H z=none→Q (.ref z) (up H z (.list (xs++ys)))):wbin .Add (.ref a) (.ref b) Q H:=by
 show match H a,H b with | some (.list xs),some (.list ys)=>_ | _,_=>False
 refine rl ha (rl hb ?_);exact ⟨le_trans hs (by decide),q⟩
include G
theorem Zsh {nm:String} {i:Int} {x m:Nat} {e:X} (h1:P.fns.lookup "_law_word" = some (Zms nm)) (h2:P.fns.lookup "_law_mixed" = some BK.f__law_mixed) (h3:P.fns.lookup "_law_cell_at" = some BK.f__law_cell_at) (hi:0≤i) (hm:m≤600) (hx:V.length=x) (h0:V[0]? = some (some (.ref sp))) (hs:H sp=some (.script ns)) (hl:ns.length≤63)
  (he:∀ Q E,Q (.int m) H→wpX ⟨c,n+2,true⟩ e V Q E H) (q:∀ H' z,Ext H H'→H' z=some (.list (txs (Zei (cell ns i.toNat) m)))→Q (.ref z) H') :
  wpX ⟨c,n+2,true⟩ (.comp (.call "_law_word" [.var x,.call "_law_cell_at" [.var 0,.lit (.int i)]]) 1 false (.prim .range [e]) none) V Q E H:=by
 refine rl Zba ?_;refine ⟨rfl,?_⟩;refine rl Zak (rl Zae ?_);refine he _ _ ?_;refine rl Zag ?_;refine Ztm (natCast_nonneg m) (by lia) fun z H1 hz E1 hr=>?_;have hl0:((List.range ((m:Int) - 0).toNat).map fun (k:Nat)=>AV.int (0+k)).length=m:=by exact rl (length_map ..) (rl (length_range ..) (rl (sub_zero ..) (rl (toNat_natCast ..) rfl)))
 refine ⟨(List.range ((m:Int) - 0).toNat).map fun (k:Nat)=>AV.int (0+k),by simp only [Zal,hr],by refine rl hl0 ?_;exact le_trans hm (by decide),fun k acc H'=>Ext H1 H'∧acc=txs (Zei (cell ns i.toNat) k),⟨.refl,rfl⟩,?_⟩;rintro k acc H' ⟨hE,rfl⟩;refine ⟨(hE _ _ hr).trans hr.symm,fun hk a ha=>?_,fun y hy=>?_⟩
 ·refine rl hk (rl hl0 ?_);exact q _ a ((E1.trans hE).new ha) Zac
 rw [getElem?_map,map_eq_some_iff] at hy;obtain ⟨j,hj,rfl⟩:=hy;obtain ⟨hj1,hj2⟩:=gsi hj;rw [List.getElem_range] at hj2;rw [length_range,sub_zero,toNat_natCast] at hj1;refine rl (Eq.symm (hj2 ..)) (rl (Int.zero_add ..) (rl (if_neg Bool.false_ne_true ..) (rl (Zbt ..) (rl (if_pos rfl ..) (rl (Zan ..) (rl (Zae ..) (rl (Zad ..) (rl (Eq.symm (hx ..)) (rl (getElem?_append_right (le_refl _) ..) (rl (sub_self ..) ?_))))))))));show wpXs _ [_] _ _ _ _;refine rl Zae (rl Zan (rl Zae (rl Zad (rl (getElem?_append_left (gsi h0).1) (rl h0 ?_)))));refine Zer (n:=n+1) G h3 hi (hE _ _ (E1 _ _ hs)) (by lia) ?_;refine rl Zag ?_;refine Zvs G h1 h2 (natCast_nonneg k) (by lia) fun H2 E2=>⟨hE.trans E2,?_⟩
 unfold Zei;refine rl range_succ (rl map_append ?_);exact Zd7
end
end Mine
end
section
namespace Mine
theorem Zpm {f:Nat→Int} {n:Nat}:sm (List.range (n+1)) f=sm (List.range n) f+f n:=by
 rw [range_succ,Zpn];show _+(f n+0)=_;rw [add_zero]
theorem Zs0 {f g:Nat→Int} {n j:Nat} {d:Int} (hj:j<n) (h:∀ i,i≠j→g i=f i) (e:g j=f j+d):sm (List.range n) g=sm (List.range n) f+d:=by
 induction n with
 | zero=>cases hj
 | succ n ih =>
  rw [Zpm,Zpm];by_cases q:j=n
  ·rw [← q,e,Zs1 (f:=g) (g:=f) fun i hi=>h i (ne_of_lt (mem_range.mp hi)),Int.add_assoc]
  ·rw [ih (Nat.lt_of_le_of_ne (Nat.le_of_lt_succ hj) q),h n fun z=>q z.symm];lia
noncomputable def chg (B B':Bk) (s:Str) (j:Nat):Int:=match B.pacts[j]? with
 | none=>0
 | some x=>match B'.pacts[j]? with
  | none=>0
  | some y=>if y.state=x.state then 0 else sAt (back x y.state) s
theorem Zvo {B B':Bk} {s:Str} {j:Nat} {x y:Pc} (h:B.pacts[j]? = some x) (h':B'.pacts[j]? = some y):chg B B' s j=if y.state=x.state then 0 else sAt (back x y.state) s:=by
 unfold chg;rw [h,h']
structure Ended (w:Sta) (B B':Bk):Prop where
 len:B'.pacts.length=B.pacts.length
 at_:∀ (j:Nat) (x:Pc),B.pacts[j]? = some x→B'.pacts[j]? = some x∨(x.state = .opn∧(w = .fln∨w = .dn∧Zgx x=true)∧B'.pacts[j]? = some (x.end w))
 f:∀ s,vl B'.free s=vl B.free s+sm (List.range B.pacts.length) (chg B B' s)
section
variable {w:Sta} {B B' B1 B2:Bk}
theorem Zum (h:B'.pacts=B.pacts) {s:Str} {j:Nat}:chg B B' s j=0:=by
 unfold chg;rw [h];cases B.pacts[j]? with
 | none=>rfl
 | some x=>exact if_pos rfl
theorem Ended.refl (h:B'.pacts=B.pacts) (hf:B'.free=B.free):Ended w B B' :=
 ⟨by rw [h],fun j x hx=>.inl (by rw [h];exact hx),fun s=>by rw [hf,Zjl fun j _=>Zum h,add_zero]⟩
theorem Ended.step {j:Nat} {x:Pc} (h:Ended w B B1) (hw:w≠.opn) (q:Zmr B1 B2 j x w):Ended w B B2:=by
 have hj:j<B1.pacts.length:=(gsi q.at_).1;have hj0:j<B.pacts.length:=h.len▸hj;have hx:B.pacts[j]? = some x:=by
  rcases h.at_ j _ (getElem?_eq_getElem hj0) with e | ⟨_,_,e⟩
  ·rw [getElem?_eq_getElem hj0,← e,q.at_]
  ·rw [q.at_] at e;exact absurd (by have:=congrArg Pc.state (osi e);rw [q.op] at this;exact this.symm) hw
 have h2:B2.pacts[j]? = some (x.end w):=by rw [q.ps,List.getElem?_set_self hj]
 have ho:∀ i,i≠j→B2.pacts[i]? = B1.pacts[i]?:=fun i hi=>by rw [q.ps,getElem?_set_ne hi.symm]
 refine ⟨by rw [q.ps,length_set,h.len],fun i y hy=>?_,fun s=>?_⟩
 ·by_cases e:i=j
  ·rw [e,hx] at hy;rw [e,← osi hy];exact .inr ⟨q.op,q.hw,h2⟩
  ·rw [ho i e];exact h.at_ i y hy
 ·rw [q.f.v,h.f,Int.add_assoc];refine congrArg _ (Zs0 hj0 (fun i hi=>?_) ?_).symm
  ·unfold chg;rw [ho i hi]
  ·rw [Zvo hx h2,Zvo hx q.at_,if_pos rfl,if_neg (fun e=>hw (e.trans q.op)),Int.zero_add];rfl
end
end Mine
end
section
namespace Mine
section
variable {pur:List Str} {c:Int} {k:Nat}
end
structure PrOK (pur:List Str) (ps:List (Str×Int)):Prop where
 k:(ps.map (·.1)).Nodup
 m:∀ e∈ps,e.1∈pur∧1≤e.2∧e.2≤1000000000000000000000000000000
 l:1≤ps.length∧ps.length≤8
structure Zz6 (pur:List Str) (own:Str) (ps gs:List (Str×Int)) (ns:List Str) (last:Int):Prop where
 p:PrOK pur ps
 g:PrOK pur gs
 eq:sumL ps=sumL gs
 nn:(own::ns).Nodup
 nm:∀ s∈ns,isNm s=true
 l3:ns.length≤8
 la:0≤last
section
variable {B:Bk} {pur:List Str}
theorem Zp6 {l acc:List (Str×Int)} (h:∀ e∈l,Zbz B (.str e.1)=true∧Zc9 (.int e.2)=true) (nd:((acc++l).map (·.1)).Nodup):Zfl B (P2 l) acc = .ok (acc++l):=by
 induction l generalizing acc with
 | nil=>refine rl (append_nil ..) ?_;rfl
 | cons e l ih =>
  obtain ⟨h1,h2⟩:=h e (.head _);show (if Zbz B (.str e.1)=true then (if e.1∈acc.map (·.1) then _ else if Zc9 (.int e.2)=true then Zfl B (P2 l) (acc++[(e.1,e.2)]) else _) else _)=_;have e1:acc++e::l=acc++[(e.1,e.2)]++l:=by refine rl (append_assoc ..) ?_;rfl
  rw [if_pos h1,if_neg,if_pos h2,ih (fun x hx=>h x (.tail _ hx)) (by rw [← e1];exact nd),e1];rw [map_append,nodup_append] at nd;exact fun hm=>nd.2.2 _ hm e.1 (.head _) rfl
theorem Zkj {l:List (Str×Int)} (hf:B.free.map (·.1)=pur) (hn:∀ s∈pur,isNm s=true) (p:PrOK pur l):Zem B (P2 l) = .ok l:=by
 unfold Zem;refine rl Zvq (rl (if_pos p.l) ?_);refine Zp6 (acc:=[]) (fun e he=>⟨?_,decide_eq_true (p.m e he).2⟩) p.k;show (isNm e.1&&hs B.free e.1)=true;refine rl (hn _ (p.m e he).1) (rl ((Zb9 hf).mpr (p.m e he).1) ?_);rfl
theorem Zqr {l seen:List Str} (h:∀ s∈l,isNm s=true) (hf:∀ s,Zbo B s=false) (nd:(seen++l).Nodup):Zgp B (txs l) seen = .ok ():=by
 induction l generalizing seen with
 | nil=>rfl
 | cons s l ih =>
  show (if isNm s=true then (if s∈seen then _ else if Zbo B s=true then _ else Zgp B (txs l) (seen++[s])) else _)=_;have e1:seen++s::l=seen++[s]++l:=by refine rl (append_assoc ..) ?_;rfl
  rw [if_pos (h s (.head _)),if_neg,if_neg (by rw [hf];exact Bool.false_ne_true),ih (fun x hx=>h x (.tail _ hx)) (by rw [← e1];exact nd)];rw [nodup_append] at nd;exact fun hm=>nd.2.2 _ hm s (.head _) rfl
theorem Zsu {own:Str} {ps gs:List (Str×Int)} {ns:List Str} {last:Int} (r:Zz6 pur own ps gs ns last) (hf:B.free.map (·.1)=pur) (hn:∀ s∈pur,isNm s=true) (ho:isNm own=true) (ht:pAt B.pacts own=none) (hfl:∀ s,Zbo B s=false) (hd:B.day=0) :
  Zka B (.str own) (P2 ps) (P2 gs) (txs ns) (.int last) = .ok { B with pacts:=B.pacts++[⟨own,ps,gs,ns,last,.opn,[]⟩] }:=by
 have hnq:Zfq B own (txs ns) = .ok ():=by
  unfold Zfq;refine rl Zaf (rl (if_pos r.l3) ?_);exact Zqr r.nm hfl r.nn
 refine (if_pos ho).trans ((if_neg (fun h=>Bool.false_ne_true ((congrArg Option.isSome ht).symm.trans h))).trans ((Zr5 (Zkj hf hn r.p)).trans ((Zr5 (Zkj hf hn r.g)).trans ((if_neg (fun z=>z r.eq)).trans ((Zr5 (show Zfq B own (txs ns) = .ok () from hnq)).trans ((if_pos ⟨rfl,by show ¬ last<B.day;refine rl hd ?_;exact Int.not_lt.mpr r.la⟩).trans ?_))))));show Except.ok _=Except.ok _;have e:(txs ns).map Za2=ns:=by
  unfold txs;refine rl map_map ?_;exact map_id _
 refine rl e ?_;rfl
end
end Mine
end
section
namespace Mine
def All2 {α β:Type} (p:α→β→Prop):List α→List β→Prop
 | [],[]=>True
 | a::as,b::bs=>p a b∧All2 p as bs
 | _,_=>False
theorem All2.ind {α β:Type} {p:α→β→Prop} {C:List α→List β→Prop} {as:List α} {bs:List β} (h:All2 p as bs) (h0:C [] []) (h1:∀ a b as bs,p a b→C as bs→C (a::as) (b::bs)):C as bs:=by
 induction as generalizing bs with
 | nil=>cases bs with
  | nil=>exact h0
  | cons=>exact h.elim
 | cons a as ih=>cases bs with
  | nil=>exact h.elim
  | cons b bs=>exact h1 a b as bs h.1 (ih h.2)
section
variable {α β:Type} {p p':α→β→Prop} {as as':List α} {bs bs':List β}
theorem All2.map (h:All2 p as bs) (f:∀ {a b},p a b→p' a b):All2 p' as bs:=h.ind (C:=All2 p') trivial fun _ _ _ _ h ih=>⟨f h,ih⟩
theorem All2.len (h:All2 p as bs):as.length=bs.length:=h.ind (C:=fun as bs=>as.length=bs.length) rfl fun _ _ _ _ _ ih=>congrArg Nat.succ ih
theorem All2.app (h:All2 p as bs) (h':All2 p as' bs'):All2 p (as++as') (bs++bs'):=h.ind (C:=fun as bs=>All2 p (as++as') (bs++bs')) h' fun _ _ _ _ h ih=>⟨h,ih⟩
theorem All2.getR (h:All2 p as bs) {j:Nat} {b:β}:bs[j]? = some b→∃ a,as[j]? = some a∧p a b :=
 h.ind (C:=fun as bs=>∀ j,bs[j]? = some b→∃ a,as[j]? = some a∧p a b) (fun j e=>by contradiction) (fun a' b as bs h ih j=>by
  cases j with
  | zero=>exact fun e=>by obtain rfl:=osi e;exact ⟨a',rfl,h⟩
  | succ j=>exact ih j) j
theorem All2.snoc {a:α} {b:β} (h:All2 p as bs) (x:p a b):All2 p (as++[a]) (bs++[b]):=h.app ⟨x,trivial⟩
theorem All2.turn {j:Nat} {a:α} {b:β} (h:All2 p as bs) (hp:p' a b) (k:∀ (i:Nat) x y,i≠j→as[i]? = some x→bs[i]? = some y→p x y→p' x y):All2 p' (as.set j a) (bs.set j b):=by
 induction as generalizing bs j with
 | nil=>cases bs with
  | nil=>trivial
  | cons=>exact h.elim
 | cons x as ih=>cases bs with
  | nil=>exact h.elim
  | cons y bs =>
   cases j with
   | zero=>exact ⟨hp,by
     have:∀ {as:List α} {bs:List β},All2 p as bs→(∀ (i:Nat) x y,as[i]? = some x→bs[i]? = some y→p x y→p' x y)→All2 p' as bs:=fun {as bs} h=>h.ind (C:=fun as bs=>(∀ (i:Nat) x y,as[i]? = some x→bs[i]? = some y→p x y→p' x y)→All2 p' as bs) (fun _=>trivial) fun a b as bs h ih k=>⟨k 0 a b rfl rfl h,ih fun i=>k (i+1)⟩
     exact this h.2 fun i x y=>k (i+1) x y (by lia)⟩
   | succ j=>exact ⟨k 0 x y (by lia) rfl rfl h.1,ih h.2 fun i x y hi=>k (i+1) x y (by lia)⟩
end
section
variable {H:Zaa} {g:Gx} {V:VV} {Q:AV→Zaa→Prop} {E:String→Zaa→Prop}
theorem Zx1 {a:Addr} {xs:List AV} {j:Nat} {v:AV} (h:H a=some (.tuple xs)) (hj:xs[j]? = some v) (hl:xs.length≤1000) (q:Q v H):wsub (.ref a) (.int j) Q H:=by
 have hlt:=(gsi hj).1
 (dsimp only [Zfg];refine rl h ?_)
 refine ⟨j,v,?_,by lia,by lia,hj,q⟩;unfold Zf5;refine rl (if_pos (natCast_nonneg j)) (rl (if_pos (by lia)) ?_);rfl
theorem Ze6 {a:Addr} {xs:List AV} {j:Nat} {v:AV} (h:H a=some (.list xs)) (hj:xs[j]? = some v) (hl:xs.length≤1000) (q:Q v H):wsub (.ref a) (.int j) Q H:=by
 have hlt:=(gsi hj).1
 (dsimp only [Zfg];refine rl h ?_)
 refine ⟨j,v,?_,by lia,by lia,hj,q⟩;unfold Zf5;refine rl (if_pos (natCast_nonneg j)) (rl (if_pos (by lia)) ?_);rfl
theorem Zlq {a:Addr} {xs:List AV} {i:Int} (h:H a=some (.list xs)) (h0:0≤i) (h1:i<xs.length) (hl:xs.length≤1000) (q:∀ v∈xs,Q v H):wsub (.ref a) (.int i) Q H:=by
 have hlt:i.toNat<xs.length:=by lia
 have:=Ze6 (Q:=Q) (j:=i.toNat) h (getElem?_eq_getElem hlt) hl (q _ (getElem_mem hlt));rw [toNat_of_nonneg h0] at this;exact this
theorem Zx2 {sp:Addr} {ns:List Int} {k:Nat} (h:H sp=some (.script ns)) (hk:k<ns.length) (hl:ns.length≤1000) (q:∀ i,Q (.int i) H):wsub (.ref sp) (.int k) Q H:=by
 (dsimp only [Zfg];refine rl h ?_)
 exact ⟨natCast_nonneg k,by lia,ns[k],by refine rl (toNat_natCast ..) ?_;exact getElem?_eq_getElem hk,q _⟩
theorem Zvl {sp:Addr} {ns:List Int} {md:Bool} (h:H sp=some (.script ns)) (hl:ns.length≤1000) (q:Q (.int ns.length) H):Zc1 md .len [.ref sp] Q H:=by
 (dsimp only [Ze2];refine rl h ?_)
 exact ⟨by lia,q⟩
end
structure gd (k:Nat) (d:PyData):Prop where
 f:Zmh d=true
 dp:d.depth≤k
 e:PyData.eqv d d=true
theorem Z0g {ne:Bool} {v:AV} {Q:AV→Zaa→Prop} {H:Zaa} (kv:Kv v) (q:Q (.bool (nt ne true)) H):weq ne v v Q H:=by
 cases v with
 | int i=>show Q (.bool (nt ne (i==i))) H;refine rl (beq_self_eq_true ..) ?_;exact q
 | str s=>show Q (.bool (nt ne (s==s))) H;refine rl (beq_self_eq_true ..) ?_;exact q
 | none=>exact ⟨_,_,.none,.none,⟨rfl,zero_le _⟩,⟨rfl,zero_le _⟩,q⟩
 | bool b=>exact ⟨_,_,.bool b,.bool b,⟨rfl,zero_le _⟩,⟨rfl,zero_le _⟩,by refine rl (show PyData.eqv (.bool b) (.bool b)=true from Zzy (v:=.bool b)) ?_;exact q⟩
 | ref a=>exact absurd rfl (kv.nr a)
def Kp (H H':Zaa):Prop:=∀ a x,x.isB=false→H a=some x→H' a=some x
section
variable {H H' H'':Zaa} {b:Addr} {B:Bk}
theorem Kp.refl:Kp H H:=fun _ _ _ h=>h
theorem Kp.trans (x:Kp H H') (y:Kp H' H''):Kp H H'':=fun a o n h=>y a o n (x a o n h)
theorem Kp.ext (e:Ext H H'):Kp H H':=fun a o _ h=>e a o h
theorem Kp.kb (hb:H b=some (.book B)) (e:Kb b H H'):Kp H H':=fun a o n h=>e a o (fun q=>by rw [q,hb] at h;cases h;cases n) h
theorem Kp.up {y:AObj} (hb:H b=some (.book B)):Kp H (Mine.up H b y):=Kp.kb hb .up
end
end Mine
end
section
namespace Mine
abbrev S9 (s:String):Str:=ofString s
noncomputable def AObj.isD:AObj→Bool
 | .dict ..=>true
 | _=>false
noncomputable def AObj.isL:AObj→Bool
 | .list _=>true
 | _=>false
section
variable {us us':List Addr} {H H' H'':Zaa}
theorem up_g {d:Addr} {o:AObj}:∀ a,up H d o a=none→H a=none:=fun a h=>by
 by_cases q:a=d
 ·rw [q,Zac] at h;contradiction
 ·rw [Zab q] at h;exact h
end
theorem Zj1 {X:List Pc} {ts:List Addr} (hl:ts.length=X.length) {k:Str}:Zb8 (dP X ts) k=(pAt X k).bind fun e=>(ts[e.1]?).map .ref:=by
 induction X generalizing ts with
 | nil=>cases ts with
  | nil=>rfl
  | cons=>cases hl
 | cons q qs ih =>
  cases ts with
  | nil=>cases hl
  | cons a as =>
  unfold Zb8 pAt;refine rl (find?_cons) ?_;by_cases e:q.name=k
  ·refine rl (if_pos e) (rl (show decide ((q.name,AV.ref a).1=k)=true from decide_eq_true e) ?_);rfl
  ·refine rl (if_neg e) (rl (show decide ((q.name,AV.ref a).1=k)=false from decide_eq_false e) ?_);have:=ih (Nat.succ.inj hl);unfold Zb8 at this;refine rl this ?_;cases pAt qs k<;>rfl
theorem Zrs {X:List Pc} {ts:List Addr} (hl:ts.length=X.length):(dP X ts).map (·.1)=X.map (·.name):=by
 induction X generalizing ts with
 | nil=>cases ts with
  | nil=>rfl
  | cons=>cases hl
 | cons q qs ih=>cases ts with
  | nil=>cases hl
  | cons a as=>show q.name::(dP qs as).map (·.1)=_;refine rl (ih (Nat.succ.inj hl)) ?_;rfl
theorem Zxg {X:List Pc} {ts:List Addr} {x:Pc} {t:Addr} (hl:ts.length=X.length):dP (X++[x]) (ts++[t])=dP X ts++[(x.name,.ref t)]:=by
 induction X generalizing ts with
 | nil=>cases ts with
  | nil=>rfl
  | cons=>cases hl
 | cons q qs ih=>cases ts with
  | nil=>cases hl
  | cons a as =>
   show (q.name,AV.ref a)::dP (qs++[x]) (as++[t])=_;refine rl (ih (Nat.succ.inj hl)) ?_;rfl
section
variable {H:Zaa} {Q:AV→Zaa→Prop} {k:Str}
theorem Zux {d:Addr} {l:List (Str×Int)} (hd:∃ ep,H d=some (.dict ep (dI l))) (h:hs l k=true) (q:Q (.int (vl l k)) H):wsub (.ref d) (.str k) Q H:=by
 obtain ⟨ep,hd⟩:=hd
 (dsimp only [Ze1];refine rl hd ?_)
 exact ⟨.int (vl l k),by refine rl Zh4 (rl (Zfv h) ?_);rfl,q⟩
end
noncomputable def isS:AV→Bool
 | .str _=>true
 | _=>false
theorem Z1b {P:Pg} {H:Zaa} {v:AV} (h:Kn H v):Zcc P H v "str" = some (isS v):=by
 obtain ⟨⟨k,hk⟩,_⟩:=h;unfold Zcc;refine rl (if_pos (.inr (.inr (.inl rfl)))) (rl hk ?_);cases v with
 | ref a =>
  unfold Ze0 at hk;dsimp only at hk;cases e:H a with
  | none=>rw [e] at hk;cases hk
  | some o=>rw [e] at hk;cases o<;>cases hk<;>rfl
 | _=>obtain rfl:=osi hk;rfl
section
variable {B:Bk} {v w:AV} {tot y:Int} {pur:List Str} {ks:List (Str×List (Str×Int))} {k:Str}
theorem Zjn (I:Inv pur ks B tot) (np:∀ s∈pur,isNm s=true):Zbz B (.str k)=hs B.free k:=by
 show (isNm k&&hs B.free k)=_;cases h:hs B.free k with
 | false=>exact rl (Bool.and_false ..) rfl
 | true=>refine rl (np k ((Zb9 I.fk).mp h)) ?_;rfl
theorem Zhu (I:Inv pur ks B tot):Zcm B (.str k)=pAt B.pacts k:=by
 show (if isNm k=true then pAt B.pacts k else none)=_;cases h:pAt B.pacts k with
 | none=>exact rl (ite_self ..) rfl
 | some e =>
  have:=Zbi (j:=e.1) (q:=e.2) h;exact rl (if_pos (by refine rl this.2.symm ?_;exact (I.at this.1).nm)) rfl
theorem Zmo {H:Zaa} {u:Addr} {l:List AV} {m:BM} (h:H u=some (.list l)) (hm:m = .append∨m = .remove):bmOn m (.ref u) H:=by
 show match H u with | some (.list _)=>_ | some (.dict _ _)=>_ | _=>False
 refine rl h ?_;rcases hm with rfl | rfl
 ·exact .inl rfl
 ·exact .inr (.inr (.inr (.inr rfl)))
end
section
variable {H:Zaa}
end
section
variable {g:Gx} {V:VV} {H:Zaa} {Q:AV→Zaa→Prop} {K:VV→Zaa→Prop} {E:String→Zaa→Prop} {md:Bool} {d:Addr} {l:List (Str×Int)}
theorem Zp0 {a i:X} {k:Str} {v:AV} {ep:Nat} {es:List (Str×AV)} (ha:∀ Q,Q (.ref d) H→wpX g a V Q E H) (hi:∀ Q,Q (.str k) H→wpX g i V Q E H) (hd:H d=some (.dict ep es)) (hl:es.length≤1000) (q:∀ ep',K V (up H d (.dict ep' (putS es k v)))):wpT g (.sub a i) v V K E H:=by
 refine ha _ (hi _ ?_);show match H d with | some (.dict _ es)=>_ | _=>False
 refine rl hd ?_;exact ⟨le_trans hl (by decide),q⟩
theorem Zsw {e:X} (hm:g.md=true) (he:∀ Q,Q (.ref d) H→wpX g e V Q E H) (hd:∃ ep,H d=some (.dict ep (dI l))) (q:∀ H',Ext H H'→Q (.int (sumL l)) H'):wpX g (.prim .sum [.bm e .values []]) V Q E H:=by
 obtain ⟨ep,hd⟩:=hd;dsimp only [Zak,Zae,Zag,x_bm];refine he _ ⟨?_,?_⟩
 ·show match H d with | some (.list _)=>_ | some (.dict _ _)=>_ | _=>False
  refine rl hd ?_;exact .inl rfl
 refine rl Zwp (rl hd ?_);intro z hz;have E1:=Ext.refl.new (o:=.vals d) hz;dsimp only [Zgn];refine ⟨hm,?_⟩;refine rl Zac ?_;dsimp only;refine rl (E1 _ _ hd) ?_;exact ⟨l.map Prod.snd,by unfold dI;refine rl map_map (rl map_map ?_);rfl,q _ E1⟩
end
theorem Zwo {H:Zaa} {ps:List (Str×Int)} {K:List Addr→Zaa→Prop} (hk:∀ e∈ps,Kv (.str e.1)) (q:∀ ts H',Ext H H'→pairsH H' ts (P2 ps)→K ts H'):Zfp H (dI ps) K:=by
 induction ps generalizing H K with
 | nil=>exact q [] H .refl trivial
 | cons e ps ih =>
  intro t ht;have E1:=Ext.refl.new (o:=.tuple [.str e.1,.int e.2]) ht;have h1:up H t (.tuple [.str e.1,.int e.2]) t=some (.tuple [.str e.1,.int e.2]):=Zac;generalize up H t (.tuple [.str e.1,.int e.2])=H1 at E1 h1;exact ih (fun e he=>hk e (.tail _ he)) fun ts H' e' hp=>q (t::ts) H' (E1.trans e') ⟨⟨rfl,e' _ _ h1,hk e (.head _),.int⟩,hp⟩
theorem Zor {g:Gx} {V:VV} {Q:AV→Zaa→Prop} {E:String→Zaa→Prop} {H:Zaa} {e:X} {d:Addr} {ed:Nat} {ps:List (Str×Int)} (hm:g.md=true) (he:∀ Q,Q (.ref d) H→wpX g e V Q E H) (hd:H d=some (.dict ed (dI ps))) (hl:ps.length≤1000) (kvs:∀ e∈ps,Kv (.str e.1)) (q:∀ z ts H',Ext H H'→H' z=some (.list (ts.map .ref))→pairsH H' ts (P2 ps)→Q (.ref z) H'):wpX g (.prim .list [.bm e .items []]) V Q E H:=by
 dsimp only [Zak,Zae,Zag,x_bm];refine he _ ⟨?_,?_⟩
 ·show match H d with | some (.list _)=>_ | some (.dict _ _)=>_ | _=>False
  refine rl hd ?_;exact .inr (.inr rfl)
 refine rl Z08 (rl hd ?_);intro i hi;have E1:=Ext.refl.new (o:=.itms d) hi
 (dsimp only [Zd9];refine rl Zac ?_;dsimp only;refine rl (E1 _ _ hd) ?_)
 refine ⟨hm,by refine rl Zgv ?_;exact le_trans hl (by decide),Zwo kvs fun ts H2 E2 hp z hz=>?_⟩;exact q z ts _ ((E1.trans E2).new hz) Zac (hp.ext (Ext.refl.new hz))
theorem Zx0 {m:Int} {ps:List (Str×Int)} (h:∀ e∈ps,1≤e.2∧e.2≤m):(ps.length:Int)≤sumL ps∧sumL ps≤ps.length*m:=by
 induction ps with
 | nil=>exact ⟨Int.le_refl 0,by refine rl (show ((([]:List (Str×Int)).length:Nat):Int)*m=0 from Int.zero_mul m) ?_;exact Int.le_refl 0⟩
 | cons e ps ih =>
  obtain ⟨i1,i2⟩:=ih fun e he=>h e (.tail _ he);obtain ⟨j1,j2⟩:=h e (.head _);have:sumL (e::ps)=e.2+sumL ps:=rfl;refine rl (this ..) (rl (length_cons ..) (rl (Int.natCast_succ ..) (rl (Int.add_mul ..) (rl (Int.one_mul ..) ?_))));exact ⟨by lia,by lia⟩
structure Hp (H:Zaa) (ha:Addr) (us:List Addr) (h f g:Addr) (l:List Str):Prop where
 t:H h=some (.tuple [.ref f,.ref g])
 a:H f=some (.list (txs l))
 b:H g=some (.list (txs l))
 u:f ∉ us
 v:g ∉ us
 m:f≠ha
 n:g≠ha
inductive Hl (H:Zaa) (ha:Addr) (us:List Addr) (N:Nat):Prop
 | mk (hs:List Addr) (l:H ha=some (.list (hs.map .ref))) (len:hs.length≤N) (p:∀ h∈hs,∃ f g l,Hp H ha us h f g l) (n:ha ∉ us)
section
variable {H H':Zaa} {ha:Addr} {us us':List Addr} {N N':Nat}
set_option tactic.hygienic true in
theorem Hl.n (h:Hl H ha us N):ha ∉ us:=by cases h;assumption
set_option tactic.hygienic true in
theorem Hl.at (h:Hl H ha us N):∃ l,H ha=some (.list l):=by cases h;exact ⟨_,by assumption⟩
theorem Hl.le (h:Hl H ha us N) (k:N≤N'):Hl H ha us N':=by
 obtain ⟨hs,h1,h2,h3,n⟩:=h;exact ⟨hs,h1,le_trans h2 k,h3,n⟩
theorem Hl.tr (h:Hl H ha us N) (k:∀ a x,x.isD=false→x.isB=false→(x.isL=true→a ∉ us)→H a=some x→H' a=some x) (hu:∀ u∈us',u∈us∨H u=none):Hl H' ha us' N:=by
 obtain ⟨hs,h1,h2,h3,n⟩:=h;have no:∀ {a o},H a=some o→a ∉ us→a ∉ us':=fun e k z=>(hu _ z).elim k fun q=>by rw [q] at e;contradiction
 refine ⟨hs,k _ _ rfl rfl (fun _=>n) h1,h2,fun h hm=>?_,no h1 n⟩;obtain ⟨f,g,l,p⟩:=h3 h hm;exact ⟨f,g,l,k _ _ rfl rfl (fun z=>by contradiction) p.t,k _ _ rfl rfl (fun _=>p.u) p.a,k _ _ rfl rfl (fun _=>p.v) p.b,no p.a p.u,no p.b p.v,p.m,p.n⟩
theorem Hl.kp (h:Hl H ha us N) (e:Kp H H'):Hl H' ha us N:=h.tr (fun a x _ b _=>e a x b) fun _ h=>.inl h
theorem Hl.chg (h:Hl H ha us N) (hu:∀ u∈us',u∈us∨H u=none):Hl H ha us' N:=h.tr (fun _ _ _ _ _ h=>h) hu
theorem Hl.add {hs:List Addr} {t f g:Addr} {l:List Str} (h1:H ha=some (.list (hs.map .ref))) (h2:hs.length≤N) (h3:∀ h∈hs,∃ f g l,Hp H ha us h f g l) (n:ha ∉ us) (P:Hp H ha us t f g l):Hl (up H ha (.list (hs.map .ref++[.ref t]))) ha us (N+1):=by
 have ka:∀ {a x},a≠ha→H a=some x→up H ha (.list (hs.map .ref++[.ref t])) a=some x:=fun n h=>by refine rl (Zab n) ?_;exact h
 have kt:∀ {h f g l},Hp H ha us h f g l→Hp (up H ha (.list (hs.map .ref++[.ref t]))) ha us h f g l:=fun p=>⟨ka (fun e=>by have:=p.t;rw [e,h1] at this;cases this) p.t,ka p.m p.a,ka p.n p.b,p.u,p.v,p.m,p.n⟩
 refine ⟨hs++[t],by refine rl Zac (rl map_append ?_);rfl,by refine rl length_append ?_;exact succ_le_succ h2,fun h hh=>?_,n⟩;rcases mem_append.mp hh with hh | hh
 ·obtain ⟨f,g,l,p⟩:=h3 h hh;exact ⟨f,g,l,kt p⟩
 ·refine rl (mem_singleton.mp hh) ?_;exact ⟨f,g,l,kt P⟩
end
section
variable {g:Gx} {V:VV} {QN:VV→Zaa→Prop} {QR:AV→Zaa→Prop} {EE:String→VV→Zaa→Prop} {H:Zaa} {ha f:Addr} {us:List Addr} {N:Nat}
theorem Zno {i m:Nat} {rest:List S} {l:List Str} (hi:V[i]? = some (some (.ref f))) (hm:V[m]? = some (some (.ref ha))) (Hh:Hl H ha (f::us) N) (hfu:f ∉ us) (hf:H f=some (.list (txs l))) (hl:l.length≤900) (hN:N≤9000) (hus:∀ u∈us,H u≠none)
  (q:∀ H',(∀ a x,a≠ha→a≠f→H a=some x→H' a=some x)→Hl H' ha us (N+1)→wpSs g rest QN QR EE V H') :
  wpSs g (.expr (.bm (.var i) .append [.lit (.str (ofString "more"))])::.expr (.bm (.var m) .append [.tuple [.var i,.prim .list [.var i]]])::rest) QN QR EE V H:=by
 have hfa:ha≠f:=fun e=>Hh.n (e▸.head _);refine w_st fun K nx=>?_;dsimp only [Zax,x_bm,Zad];refine rl hi ?_;refine ⟨Zmo hf (.inl rfl),?_⟩;dsimp only [Zae,Zai,Zag];refine Zde hf (by refine rl Zaf ?_;exact le_trans hl (by decide)) (nx _ _ ?_);refine rl (show txs l++[.str (ofString "more")]=txs (l++[ofString "more"]) by unfold txs;refine rl map_append ?_;rfl) ?_;have H1h:Hl (up H f (.list (txs (l++[ofString "more"])))) ha us N:=Hh.tr (fun a x _ _ hx h=>by refine rl (Zab fun q=>by rw [q] at h hx;rw [hf] at h;obtain rfl:=osi h;exact hx rfl (.head _)) ?_;exact h) fun _ h=>.inl (.tail _ h);have k1:∀ a x,a≠f→H a=some x→up H f (.list (txs (l++[ofString "more"]))) a=some x:=fun a x h e=>by refine rl (Zab h) ?_;exact e
 have g1:=up_g (H:=H) (d:=f) (o:=.list (txs (l++[ofString "more"])));have f1:up H f (.list (txs (l++[ofString "more"]))) f=some (.list (txs (l++[ofString "more"]))):=Zac;generalize up H f (.list (txs (l++[ofString "more"])))=H1 at H1h k1 f1 g1;have hl':(l++[ofString "more"]).length≤1000:=by refine rl length_append ?_;show l.length+1≤1000;lia
 generalize l++[ofString "more"]=l' at f1 hl';obtain ⟨hs,h1,h2,h3,hn⟩:=H1h;refine w_st fun K nx=>?_;dsimp only [Zax,x_bm,Zad];refine rl hm ?_;refine ⟨Zmo h1 (.inl rfl),?_⟩;dsimp only [Zae,Zbc,Zad,Zak];refine rl hi ?_;dsimp only [Zag];refine Zf9 f1 hl' fun z hz=>?_;intro t ht;have E2:=(Ext.refl.new (o:=.list (txs l')) hz).new (o:=.tuple [.ref f,.ref z]) ht;have z2:up (up H1 z (.list (txs l'))) t (.tuple [.ref f,.ref z]) z=some (.list (txs l')):=Zdl Zac ht;have t2:up (up H1 z (.list (txs l'))) t (.tuple [.ref f,.ref z]) t=some (.tuple [.ref f,.ref z]):=Zac;generalize up (up H1 z (.list (txs l'))) t (.tuple [.ref f,.ref z])=H2 at E2 z2 t2;refine Zde (E2 _ _ h1) (by refine rl (length_map ..) ?_;exact le_trans h2 (le_trans hN (by decide))) (nx _ _ (q _ (fun a x n1 n2 h=>by refine rl (Zab n1 ..) ?_;exact E2 _ _ (k1 a x n2 h)) (Hl.add (E2 _ _ h1) h2 (fun h hh=>?_) hn ⟨t2,E2 _ _ f1,z2,hfu,fun e=>hus z e (g1 z hz),hfa.symm,(Zh0 h1 hz).symm⟩)));obtain ⟨a1,a2,m,p⟩:=h3 h hh;exact ⟨a1,a2,m,E2 _ _ p.t,E2 _ _ p.a,E2 _ _ p.b,p.u,p.v,p.m,p.n⟩
end
section
variable {α:Type} {xs:List α}
theorem Zfj {l u t:Option Int} {x:α} (h:x∈Zb1 xs l u t):x∈xs:=by
 unfold Zb1 at h;obtain ⟨i,_,hi⟩:=List.mem_filterMap.mp h;exact mem_of_getElem? hi
theorem Zxj {j:Int} {n:Nat} (h:0≤j):sliceBounds (some j) none (some 2) n=(min j n,(n:Int),2):=by
 unfold sliceBounds;simp only [show ¬ (j<0) from Int.not_lt.mpr h,show ((2:Int) > 0) from by decide,if_true,if_false];congr 1;exact Int.max_eq_right (Int.le_min.mpr ⟨h,natCast_nonneg _⟩)
theorem Ztd {j:Int} (h:0≤j):Zb1 xs (some j) none (some 2)=((List.range (if min j xs.length<(xs.length:Int) then ((xs.length:Int) - min j xs.length+2 - 1) / 2 else 0).toNat).map fun (k:Nat)=>(min j xs.length+2*(k:Int)).toNat).filterMap (xs[·]?):=by
 unfold Zb1;refine rl (Zxj h) ?_;unfold sliceRange;dsimp only;exact rl (if_pos (by decide)) rfl
noncomputable def Zxi (n:Nat) (s:Int) (v:Option Int) (d:Int):Int:=match v with
 | none=>d
 | some i=>if s > 0 then max 0 (min (if i<0 then i+n else i) n) else max (-1) (min (if i<0 then i+n else i) ((n:Int) - 1))
theorem Zr1 {n:Nat} {s d:Int} (v:Option Int) (h0:-1≤d) (h1:d≤(n:Int)):-1≤Zxi n s v d∧Zxi n s v d≤(n:Int):=by
 have n0:=natCast_nonneg n;cases v with
 | none=>exact ⟨h0,h1⟩
 | some i =>
  unfold Zxi;dsimp only;generalize (if i<0 then i+(n:Int) else i)=k;by_cases q:s > 0
  ·refine rl (if_pos q) ?_;exact ⟨Int.le_trans (by decide) (Int.le_max_left 0 _),Int.max_le.mpr ⟨n0,Int.min_le_right ..⟩⟩
  ·refine rl (if_neg q) ?_;exact ⟨Int.le_max_left ..,Int.max_le.mpr ⟨Int.le_trans (by decide) n0,Int.le_trans (Int.min_le_right ..) (Int.sub_le_self _ (by decide))⟩⟩
theorem Zz0 {a b s:Int} {n:Nat} (ha:-1≤a∧a≤n) (hb:-1≤b∧b≤n) (hs:s=1∨s=2∨s = -1):(if s > 0 then (if a<b then (b - a+s - 1) / s else 0) else (if a > b then (a - b - s - 1) / (-s) else 0)).toNat≤n+2:=by
 have go:∀ {x s:Int},0≤x→x≤n+2→(x / s).toNat≤n+2:=fun h0 h1=>Int.toNat_le.mpr (Int.le_trans (Int.ediv_le_self _ h0) h1);rcases hs with rfl | rfl | rfl
 ·refine rl (if_pos (by decide)) ?_;split
  ·exact go (by lia) (by lia)
  ·exact zero_le _
 ·refine rl (if_pos (by decide)) ?_;split
  ·exact go (by lia) (by lia)
  ·exact zero_le _
 ·refine rl (if_neg (by decide)) ?_;split
  ·exact go (by lia) (by lia)
  ·exact zero_le _
set_option tactic.hygienic true in
theorem Zfk {l u t:Option Int} (ht:t.getD 1=1∨t.getD 1=2∨t.getD 1 = -1):(Zb1 xs l u t).length≤xs.length+2:=by
 unfold Zb1;refine le_trans (List.length_filterMap_le _ _) ?_;unfold sliceRange;refine rl (length_map ..) (rl (length_range ..) ?_);have n0:=natCast_nonneg xs.length;have d1:∀ {p:Prop} [Decidable p] {x y:Int},(-1≤x∧x≤xs.length)→(-1≤y∧y≤xs.length)→-1≤(if p then x else y)∧(if p then x else y)≤xs.length:=fun {p _ x y} hx hy=>by split<;>assumption
 have c0:-1≤(0:Int)∧(0:Int)≤xs.length:=⟨by decide,n0⟩
 have c1:-1≤(xs.length:Int) - 1∧(xs.length:Int) - 1≤xs.length:=⟨by lia,by lia⟩
 have c2:-1≤(xs.length:Int)∧(xs.length:Int)≤xs.length:=⟨by lia,Int.le_refl _⟩
 have c3:-1≤(-1:Int)∧(-1:Int)≤xs.length:=⟨Int.le_refl _,by lia⟩
 have e1:=d1 (p:=t.getD 1 > 0) c0 c1;have e2:=d1 (p:=t.getD 1 > 0) c2 c3;exact Zz0 (Zr1 l e1.1 e1.2) (Zr1 u e2.1 e2.2) ht
theorem Zm6 (h:0<xs.length):0<(Zb1 xs (some 0) none (some 2)).length:=by
 refine rl (Ztd (Int.le_refl 0)) ?_;refine List.length_pos_of_mem (a:=xs[0]) (List.mem_filterMap.mpr ⟨0,mem_map.mpr ⟨0,mem_range.mpr ?_,?_⟩,getElem?_eq_getElem h⟩)
 ·have h':(0:Int)<xs.length:=Int.natCast_pos.mpr h;refine rl (show min (0:Int) (xs.length:Int)=0 from Int.min_eq_left (Int.le_of_lt h')) (rl (if_pos h' ..) (rl (sub_zero ..) ?_));exact Int.lt_toNat.mpr (Int.le_ediv_of_mul_le (by decide) (by lia))
 ·refine rl (show min (0:Int) (xs.length:Int)=0 from Int.min_eq_left (natCast_nonneg _)) ?_;rfl
end
def Asks (H:Zaa) (ts:List Addr) (ys:List Int) (ss:List Str):Prop:=∀ t∈ts,∃ y∈ys,∃ s∈ss,H t=some (.tuple [.int y,.str s])
inductive Cr (H:Zaa) (v0 v1:Option AV) (ys:List Int) (ss:List Str) (k:Nat) (V':VV) (H':Zaa):Prop
 | mk (z:Addr) (ts:List Addr) (p3:Option AV) (hV:V'=[v0,v1,some (.ref z),p3]) (hE:Ext H H') (hz:H' z=some (.list (ts.map .ref))) (hA:Asks H' ts ys ss) (hl:ts.length=k*ss.length)
inductive Cc (H:Zaa) (y:Int) (ss:List Str) (k:Nat) (acc:List AV) (H':Zaa):Prop
 | mk (ts:List Addr) (ha:acc=ts.map .ref) (hE:Ext H H') (hA:Asks H' ts [y] ss) (hl:ts.length=k)
theorem Asks.ext {H H':Zaa} {ts:List Addr} {ys:List Int} {ss:List Str} (h:Asks H ts ys ss) (e:Ext H H'):Asks H' ts ys ss:=fun t ht=>let ⟨y,hy,s,hs,q⟩:=h t ht;⟨y,hy,s,hs,e _ _ q⟩
noncomputable def Zrv:Fn:=⟨2,["_law_ways","_law_names","_law_found","_law_way"],[
 .assign (.var 2) (.list []),
 .for (.var 3) (.var 0) [.assign (.var 2) (.bin .Add (.var 2) (.comp (.tuple [(.var 3),(.var 4)]) 1 false (.var 1) none))],
 .ret (.var 2)]⟩
section
variable {c:Cx} {P:Pg} (G:Gd c P) {n:Nat} {Q:AV→Zaa→Prop} {E:String→Zaa→Prop} {H:Zaa} {wa d:Addr} {ys:List Int} {ss:List Str} {y:Int}
theorem Zo2 {g:Gx} {v0 v2:Option AV} (hmd:g.md=true) (hd:Zal H (.ref d)=some (txs ss)) (hs:ss.length≤100) (q:∀ H' z ts,Ext H H'→H z=none→H' z=some (.list (ts.map .ref))→Asks H' ts [y] ss→ts.length=ss.length→Q (.ref z) H') :
  wpX g (.comp (.tuple [(.var 3),(.var 4)]) 1 false (.var 1) none) [v0,some (.ref d),v2,some (.int y)] Q E H:=by
 obtain ⟨o,ho⟩:∃ o,H d=some o:=by
  cases h:H d with
  | some o=>exact ⟨o,rfl⟩
  | none=>unfold Zal at hd;dsimp only at hd;rw [h] at hd;contradiction
 refine ⟨hmd,txs ss,hd,by refine rl Zaf ?_;exact le_trans hs (by decide),Cc H y ss,⟨[],rfl,.refl,(fun t ht=>by contradiction),rfl⟩,?_⟩;rintro k acc H' ⟨ts,rfl,hE,hA,hl⟩;refine ⟨(hE _ _ ho).trans ho.symm,fun hk a ha=>?_,fun x hx=>?_⟩
 ·rw [Zaf] at hk;have Ea:=Ext.refl.new (o:=.list (ts.map .ref)) ha;exact q _ a ts (hE.trans Ea) (hE.none ha) Zac (hA.ext Ea) (hl.trans hk)
 ·unfold txs at hx;rw [getElem?_map,map_eq_some_iff] at hx;obtain ⟨s,hsk,rfl⟩:=hx
  (refine Eq.mpr (if_neg Bool.false_ne_true) ?_;dsimp only [Zbt];refine Eq.mpr (if_pos rfl) ?_)
  intro t ht;have Et:=Ext.refl.new (o:=.tuple [.int y,.str s]) ht;refine ⟨ts++[t],by refine rl map_append ?_;rfl,hE.trans Et,fun t' ht'=>?_,by refine rl length_append (rl hl ?_);rfl⟩;rcases mem_append.mp ht' with h | h
  ·exact (hA.ext Et) t' h
  ·refine rl (mem_singleton.mp h) ?_;exact ⟨y,.head _,s,mem_of_getElem? hsk,Zac⟩
include G
theorem Zi8 (hU:P.fns.lookup "_law_crossed" = some Zrv) (hw:H wa=some (.list (ys.map .int))) (hd:∀ H',Ext H H'→Zal H' (.ref d)=some (txs ss)) (hs:ss.length≤100) (hy:ys.length≤3) (q:∀ H' z ts,Ext H H'→H' z=some (.list (ts.map .ref))→Asks H' ts ys ss→ts.length=ys.length*ss.length→Q (.ref z) H'):CallOK c (n+1) true "_law_crossed" [.ref wa,.ref d] Q E H:=by
 refine G.call (F:=Zrv) hU rfl ?_;refine w_st fun K nx=>?_;intro z0 hz0;refine ⟨show 2<4 by decide,nx _ _ ?_⟩;have E0:=Ext.refl.new (o:=.list []) hz0;have hz1:up H z0 (.list []) z0=some (.list (([]:List Addr).map .ref)):=Zac;generalize up H z0 (.list [])=H0 at E0 hz1;refine w_st fun K nx=>?_;refine ⟨rfl,?_⟩;dsimp only [Zad];show WFor _ _ (.ref wa) _ _;refine Zdb (xs:=ys.map .int) (by simp only [Zal,E0 _ _ hw]) (Cr H (some (.ref wa)) (some (.ref d)) ys ss) ⟨z0,[],none,rfl,E0,hz1,(fun t ht=>by contradiction),by refine rl (Nat.zero_mul ..) ?_;rfl⟩ ?_;rintro J hJ k V' H' ⟨z,ts,p3,rfl,hE,hz,hA,hl⟩;refine ⟨(hE _ _ hw).trans (E0 _ _ hw).symm,fun hk=>nx _ _ ?_,fun x hx=>⟨show 3<4 by decide,?_⟩⟩
 ·rw [length_map] at hk;exact q H' z ts hE hz hA (by exact rl hl (rl hk rfl))
 ·rw [getElem?_map,map_eq_some_iff] at hx;obtain ⟨y,hyk,rfl⟩:=hx;have hk:k<ys.length:=(gsi hyk).1;show wpSs _ [_] _ _ _ [some (.ref wa),some (.ref d),some (.ref z),some (.int y)] _;dsimp only [Zaw,Zam,Zar,Zad];refine Zo2 rfl (hd H' hE) hs fun H2 z2 ts2 E2 _ hz2 hA2 hl2=>?_;have hb:(ts.map AV.ref).length+(ts2.map AV.ref).length≤1000:=by
   refine rl (length_map ..) (rl (length_map ..) (rl (hl ..) (rl (hl2 ..) ?_)));have:k*ss.length≤3*100:=Nat.mul_le_mul (by lia) hs;lia
  refine Zes (E2 _ _ hz) hz2 hb fun z3 hz3=>⟨show 2<4 by decide,hJ _ _ _ ⟨z3,ts++ts2,_,rfl,(hE.trans E2).new hz3,by exact rl Zac (rl map_append rfl),fun t ht=>?_,?_⟩⟩
  ·have E3:=Ext.refl.new (o:=.list (ts.map .ref++ts2.map .ref)) hz3;rcases mem_append.mp ht with h | h
   ·exact ((hA.ext E2).ext E3) t h
   ·obtain ⟨y',hy',s,hs',e⟩:=(hA2.ext E3) t h;rw [mem_singleton.mp hy'] at e;exact ⟨y,mem_of_getElem? hyk,s,hs',e⟩
  ·exact rl (length_append ..) (rl (hl ..) (rl (hl2 ..) (rl (Nat.succ_mul ..) rfl)))
theorem Zmu {i:Int} (hU:P.fns.lookup "_law_whole" = some BK.f__law_whole) (q:Q (.bool true) H):CallOK c (n+1) true "_law_whole" [.int i] Q E H:=by
 refine G.call (F:=BK.f__law_whole) hU rfl ?_;exact q
end
theorem two {x:Int} (h0:0≤x) (h1:x<2):x=0∨x=1:=by lia
theorem Zur {k:Nat}:(List.replicate k true).all id=true:=by
 induction k with
 | zero=>rfl
 | succ k ih=>exact ih
inductive Sa (H:Zaa) (ha:Addr) (us:List Addr) (N:Nat) (k:Nat) (acc:List AV) (H':Zaa):Prop
 | mk (hK:Kb ha H H') (hh:Hl H' ha us (N+k)) (ha:acc=(List.replicate k true).map .bool)
theorem Kn.ext {H H':Zaa} {v:AV} (h:Kn H v) (e:Ext H H'):Kn H' v:=by
 obtain ⟨⟨t,ht⟩,hl⟩:=h;refine ⟨⟨t,?_⟩,hl⟩;cases v with
 | ref a =>
  unfold Ze0 at ht ⊢;dsimp only at ht ⊢;cases h:H a with
  | none=>rw [h] at ht;cases ht
  | some x=>refine rl (e _ _ h) ?_;rw [h] at ht;exact ht
 | _=>exact ht
def Kq (H:Zaa) (v:AV):Prop:=Kv v∨∃ a l,v = .ref a∧H a=some (.list l)
theorem Kq.kp {H H':Zaa} {v:AV} (h:Kq H v) (e:Kp H H'):Kq H' v:=h.imp_right fun ⟨a,l,h1,h2⟩=>⟨a,l,h1,e _ _ rfl h2⟩
theorem Kq.kn {H:Zaa} {v:AV} (h:Kq H v):Kn H v:=by
 rcases h with h | ⟨a,l,rfl,h⟩
 ·exact h.kn
 ·refine ⟨?_,fun s e=>by contradiction⟩;unfold Ze0;dsimp only;refine rl h ?_;exact ⟨_,rfl⟩
end Mine
end
section
namespace Mine.L10
noncomputable def Zmk:Fn:=⟨2,["_law_k","_law_cell","_law_letters","_law_told","_law_rest","_law_more","_law_j","_law_at"],[
 .assign (.var 2) (.lit (.str (ofString "abcdefghijklmnopqrstuvwxyz"))),
 .assign (.var 3) (.bin .Add (.sub (.var 2) (.bin .Mod (.bin .FloorDiv (.var 0) (.lit (.int 26))) (.lit (.int 26)))) (.sub (.var 2) (.bin .Mod (.var 0) (.lit (.int 26))))),
 .assign (.var 4) (.call "_law_mixed" [(.var 1),(.lit (.int 0))]),
 .ite (.cmp .Eq (.bin .Mod (.var 1) (.lit (.int 2))) (.lit (.int 1))) [.assign (.var 4) (.call "_law_mixed" [(.var 1),(.var 0)]),
  .ite (.ao true [(.cmp .Eq (.bin .Mod (.var 4) (.lit (.int 12))) (.lit (.int 11))),(.cmp .Lt (.var 0) (.lit (.int 26)))]) [.ret (.sub (.var 2) (.var 0))] []] [],
 .assign (.var 5) (.lit (.str (ofString ""))),
 .for (.var 6) (.prim .range [(.bin .Mod (.bin .FloorDiv (.var 4) (.lit (.int 12))) (.lit (.int 11)))]) [.assign (.var 5) (.bin .Add (.var 5) (.sub (.var 2) (.bin .Mod (.bin .FloorDiv (.var 4) (.lit (.int 300))) (.lit (.int 26))))),
  .assign (.var 4) (.bin .FloorDiv (.var 4) (.lit (.int 26)))],
 .ite (.cmp .Eq (.bin .Mod (.var 1) (.lit (.int 2))) (.lit (.int 1))) [.ret (.bin .Add (.var 3) (.var 5))] [],
 .assign (.var 7) (.bin .Mod (.bin .FloorDiv (.var 1) (.lit (.int 2))) (.bin .Add (.prim .len [(.var 5)]) (.lit (.int 1)))),
 .ret (.bin .Add (.bin .Add (.slice (.var 5) none (some (.var 7)) none) (.var 3)) (.slice (.var 5) (some (.var 7)) none none))]⟩
noncomputable def f__law_pact_by:Fn:=⟨3,["_law_cell","_law_own","_law_words","_law_parts","_law_rest","_law_needs","_law_size","_law_j","_law_need","_law_inside","_law_last"],[
 .assign (.var 3) (.dict [(.lit (.str (ofString "till")))] [(.bin .Add (.lit (.int 1)) (.bin .Mod (.var 0) (.lit (.int 20))))]),
 .ite (.cmp .Eq (.bin .Mod (.bin .FloorDiv (.var 0) (.lit (.int 20))) (.lit (.int 2))) (.lit (.int 1))) [.assign (.sub (.var 3) (.lit (.str (ofString "quay")))) (.bin .Add (.lit (.int 1)) (.bin .Mod (.bin .FloorDiv (.var 0) (.lit (.int 40))) (.lit (.int 20))))] [],
 .assign (.var 4) (.bin .FloorDiv (.var 0) (.lit (.int 800))),
 .assign (.var 5) (.list []),
 .assign (.var 6) (.bin .Mod (.var 4) (.lit (.int 4))),
 .ite (.cmp .Eq (.bin .Mod (.bin .FloorDiv (.var 4) (.lit (.int 4))) (.lit (.int 6))) (.lit (.int 1))) [.assign (.var 6) (.bin .Mod (.bin .FloorDiv (.var 4) (.lit (.int 24))) (.lit (.int 9)))] [],
 .assign (.var 4) (.bin .FloorDiv (.var 4) (.lit (.int 216))),
 .for (.var 7) (.prim .range [(.var 6)]) [.assign (.var 8) (.sub (.var 2) (.bin .Mod (.var 4) (.prim .len [(.var 2)]))),
  .assign (.var 4) (.bin .FloorDiv (.var 4) (.lit (.int 3))),
  .ite (.ao true [(.cmp .NotEq (.var 8) (.var 1)),(.cmp .NotIn (.var 8) (.var 5))]) [.expr (.bm (.var 5) .append [(.var 8)])] []],
 .assign (.var 9) (.comp (.var 11) 1 false (.var 3) (some (.cmp .Gt (.bin .Mod (.bin .Add (.bin .Add (.bin .FloorDiv (.var 0) (.lit (.int 40))) (.bin .Mult (.prim .len [(.var 11)]) (.lit (.int 7)))) (.sub (.var 3) (.var 11))) (.lit (.int 3))) (.lit (.int 0))))),
 .assign (.var 10) (.bin .Mod (.bin .FloorDiv (.var 0) (.lit (.int 7))) (.lit (.int 9))),
 .ite (.cmp .Eq (.bin .Mod (.bin .FloorDiv (.var 0) (.lit (.int 63))) (.lit (.int 4))) (.lit (.int 1))) [.assign (.var 10) (.bin .Mod (.bin .FloorDiv (.var 0) (.lit (.int 252))) (.lit (.int 1000000001)))] [],
 .ret (.list [(.var 3),(.var 5),(.var 10),(.var 9),(.lit (.str (ofString "open")))])]⟩
noncomputable def f__law_next:Fn:=⟨2,["_law_pacts_here","_law_fell_here","_law_name","_law_parts","_law_needs","_law_last","_law_inside","_law_state","_law_need"],[
 .for (.var 2) (.var 0) [.assign (.tup [3,4,5,6,7]) (.sub (.var 0) (.var 2)),
  .ite (.ao true [(.cmp .Eq (.var 7) (.lit (.str (ofString "open")))),(.cmp .NotIn (.var 2) (.var 1))]) [.for (.var 8) (.var 4) [.ite (.cmp .In (.var 8) (.var 1)) [.ret (.var 2)] []]] []],
 .ret (.lit .none)]⟩
noncomputable def f__law_fell:Fn:=⟨3,["_law_pacts_here","_law_fell_here","_law_first","_law_k"],[
 .ite (.ao false [(.not (.isinst (.var 1) "list")),(.cmp .NotEq (.slice (.var 1) none (some (.prim .len [(.var 2)])) none) (.var 2))]) [.ret (.lit (.bool false))] [],
 .for (.var 3) (.prim .range [(.prim .len [(.var 2)]),(.prim .len [(.var 1)])]) [.ite (.ao false [(.cmp .Is (.sub (.var 1) (.var 3)) (.lit .none)),(.cmp .NotEq (.sub (.var 1) (.var 3)) (.call "_law_next" [(.var 0),(.slice (.var 1) none (some (.var 3)) none)]))]) [.ret (.lit (.bool false))] []],
 .ret (.cmp .Is (.call "_law_next" [(.var 0),(.var 1)]) (.lit .none))]⟩
noncomputable def f__law_due_of:Fn:=⟨3,["_law_pacts_here","_law_way","_law_name","_law_aside","_law_paid"],[
 .ite (.cmp .Eq (.var 1) (.lit (.int 2))) [.ret (.sub (.sub (.var 0) (.var 2)) (.lit (.int 4)))] [],
 .ite (.cmp .Eq (.var 1) (.lit (.int 3))) [.ret (.prim .list [(.sub (.sub (.var 0) (.var 2)) (.lit (.int 3)))])] [],
 .ite (.cmp .Eq (.var 1) (.lit (.int 4))) [.ret (.list [(.lit (.str (ofString "till"))),(.lit (.str (ofString "quay")))])] [],
 .assign (.var 3) (.prim .sum [(.comp (.sub (.sub (.sub (.var 0) (.var 5)) (.lit (.int 0))) (.var 2)) 1 false (.var 0) (some (.cmp .In (.var 2) (.sub (.sub (.var 0) (.var 5)) (.lit (.int 3))))))]),
 .ite (.cmp .Eq (.var 1) (.lit (.int 1))) [.ret (.var 3)] [],
 .assign (.var 4) (.prim .len [(.comp (.var 5) 1 false (.var 0) (some (.cmp .Eq (.sub (.sub (.var 0) (.var 5)) (.lit (.int 4))) (.lit (.str (ofString "done"))))))]),
 .ret (.bin .Add (.bin .Sub (.lit (.int 5000)) (.var 3)) (.bin .Mult (.sub (.list [(.lit (.int 5)),(.neg (.lit (.int 5)))]) (.prim .int [(.cmp .Eq (.var 2) (.lit (.str (ofString "till"))))])) (.var 4)))]⟩
noncomputable def f__law_one_same:Fn:=⟨5,["_law_book","_law_pacts_here","_law_way","_law_name","_law_held","_law_found"],[
 .assign (.var 5) (.ite (.cmp .Eq (.var 2) (.lit (.int 4))) (.meth (.var 0) "purses" []) (.lit .none)),
 .ite (.cmp .Lt (.var 2) (.lit (.int 2))) [.assign (.var 5) (.ite (.cmp .Eq (.var 2) (.lit (.int 0))) (.meth (.var 0) "free_of" [(.var 3)]) (.meth (.var 0) "aside_of" [(.var 3)]))] [.ite (.cmp .Lt (.var 2) (.lit (.int 4))) [.assign (.var 5) (.ite (.cmp .Eq (.var 2) (.lit (.int 2))) (.meth (.var 0) "state_of" [(.var 3)]) (.meth (.var 0) "inside_of" [(.var 3)]))] []],
 .ite (.ao false [(.cmp .NotEq (.var 5) (.call "_law_due_of" [(.var 1),(.var 2),(.var 3)])),(.ao true [(.cmp .Lt (.var 2) (.lit (.int 2))),(.not (.call "_law_whole" [(.var 5)]))])]) [.ret (.lit (.bool false))] [],
 .ite (.cmp .Gt (.var 2) (.lit (.int 2))) [.expr (.bm (.var 5) .append [(.lit (.str (ofString "more")))]),
  .expr (.bm (.var 4) .append [(.tuple [(.var 5),(.prim .list [(.var 5)])])])] [],
 .ret (.lit (.bool true))]⟩
noncomputable def Zik:Fn:=⟨2,["_law_ways","_law_names","_law_found","_law_way"],[
 .assign (.var 2) (.list []),
 .for (.var 3) (.var 0) [.assign (.var 2) (.bin .Add (.var 2) (.comp (.tuple [(.var 3),(.var 4)]) 1 false (.var 1) none))],
 .ret (.var 2)]⟩
noncomputable def f__law_same:Fn:=⟨4,["_law_book","_law_pacts_here","_law_turn","_law_held","_law_asked","_law_at"],[
 .ite (.cmp .Eq (.bin .Mod (.var 2) (.lit (.int 5))) (.lit (.int 4))) [.ret (.lit (.bool true))] [],
 .assign (.var 4) (.bin .Add (.bin .Add (.call "_law_crossed" [(.list [(.lit (.int 0)),(.lit (.int 1))]),(.list [(.lit (.str (ofString "till"))),(.lit (.str (ofString "quay")))])]) (.list [(.tuple [(.lit (.int 4)),(.lit (.str (ofString "")))])])) (.call "_law_crossed" [(.list [(.lit (.int 2)),(.lit (.int 3))]),(.var 1)])),
 .assign (.var 4) (.bin .Add (.slice (.var 4) (some (.bin .Mod (.bin .FloorDiv (.var 2) (.lit (.int 5))) (.lit (.int 2)))) none (some (.lit (.int 2)))) (.slice (.var 4) (some (.bin .Sub (.lit (.int 1)) (.bin .Mod (.bin .FloorDiv (.var 2) (.lit (.int 5))) (.lit (.int 2))))) none (some (.lit (.int 2))))),
 .assign (.var 5) (.bin .Mod (.bin .FloorDiv (.var 2) (.lit (.int 10))) (.prim .len [(.var 4)])),
 .assign (.var 4) (.slice (.bin .Add (.slice (.var 4) (some (.var 5)) none none) (.slice (.var 4) none (some (.var 5)) none)) none none (some (.bin .Sub (.lit (.int 1)) (.bin .Mult (.lit (.int 2)) (.bin .Mod (.bin .FloorDiv (.var 2) (.lit (.int 1000))) (.lit (.int 2))))))),
 .ret (.prim .all [(.comp (.call "_law_one_same" [(.var 0),(.var 1),(.var 6),(.var 7),(.var 3)]) 2 true (.var 4) none)])]⟩
noncomputable def f__law_called:Fn:=⟨3,["_law_book","_law_pacts_here","_law_name","_law_fell_here","_law_word_here"],[
 .assign (.var 3) (.lit .none),
 .assign (.var 4) (.lit (.str (ofString ""))),
 .try [.assign (.var 3) (.meth (.var 0) "call_off" [(.var 2)])] [.mk "NoPact" none [.assign (.var 4) (.lit (.str (ofString "NoPact")))],.mk "NotOpen" none [.assign (.var 4) (.lit (.str (ofString "NotOpen")))]],
 .ite (.ao false [(.not (.isinst (.var 2) "str")),(.cmp .NotIn (.var 2) (.var 1))]) [.ret (.tuple [(.cmp .Eq (.var 4) (.lit (.str (ofString "NoPact")))),(.list [])])] [],
 .ite (.cmp .NotEq (.sub (.sub (.var 1) (.var 2)) (.lit (.int 4))) (.lit (.str (ofString "open")))) [.ret (.tuple [(.cmp .Eq (.var 4) (.lit (.str (ofString "NotOpen")))),(.list [])])] [],
 .ret (.tuple [(.ao true [(.cmp .Eq (.var 4) (.lit (.str (ofString "")))),(.call "_law_fell" [(.var 1),(.var 3),(.list [(.var 2)])])]),(.var 3)])]⟩
noncomputable def f__law_passed:Fn:=⟨4,["_law_book","_law_pacts_here","_law_cell","_law_day","_law_count","_law_odd","_law_refused","_law_fell_here","_law_first"],[
 .assign (.var 4) (.bin .Add (.lit (.int 1)) (.bin .Mod (.bin .FloorDiv (.var 2) (.lit (.int 2))) (.lit (.int 3)))),
 .ite (.cmp .Eq (.bin .Mod (.bin .FloorDiv (.var 2) (.lit (.int 6))) (.lit (.int 4))) (.lit (.int 1))) [.assign (.var 4) (.bin .Add (.lit (.int 1)) (.bin .Mod (.bin .FloorDiv (.var 2) (.lit (.int 24))) (.bin .Pow (.lit (.int 10)) (.lit (.int 9)))))] [],
 .assign (.var 5) (.cmp .Eq (.bin .Mod (.bin .FloorDiv (.var 2) (.lit (.int 6))) (.lit (.int 8))) (.lit (.int 2))),
 .ite (.var 5) [.assign (.var 4) (.sub (.list [(.lit (.int 0)),(.neg (.lit (.int 1))),(.lit (.bool true)),(.lit .none),(.lit (.str (ofString "2"))),(.neg (.lit (.int 3)))]) (.bin .Mod (.bin .FloorDiv (.var 2) (.lit (.int 48))) (.lit (.int 6))))] [],
 .assign (.var 6) (.lit (.bool false)),
 .assign (.var 7) (.list []),
 .try [.assign (.var 7) (.meth (.var 0) "pass_days" [(.var 4)])] [.mk "NoDay" none [.assign (.var 6) (.lit (.bool true))]],
 .ite (.ao false [(.var 5),(.var 6)]) [.ret (.tuple [(.ao true [(.var 5),(.var 6)]),(.list []),(.var 3)])] [],
 .assign (.var 8) (.comp (.var 9) 1 false (.var 1) (some (.ao true [(.cmp .Eq (.sub (.sub (.var 1) (.var 9)) (.lit (.int 4))) (.lit (.str (ofString "open")))),(.cmp .Lt (.sub (.sub (.var 1) (.var 9)) (.lit (.int 2))) (.bin .Add (.var 3) (.var 4)))]))),
 .ret (.tuple [(.call "_law_fell" [(.var 1),(.var 7),(.var 8)]),(.var 7),(.bin .Add (.var 3) (.var 4))])]⟩
noncomputable def f__law_pacts:Fn:=⟨2,["_law_script","_law_book","_law_many","_law_words","_law_paid","_law_pacts_here","_law_name","_law_k","_law_row","_law_total","_law_purse"],[
 .assign (.var 2) (.bin .Add (.lit (.int 2)) (.bin .Mod (.call "_law_cell_at" [(.var 0),(.lit (.int 0))]) (.lit (.int 5)))),
 .ite (.cmp .Eq (.bin .Mod (.bin .FloorDiv (.call "_law_cell_at" [(.var 0),(.lit (.int 0))]) (.lit (.int 5))) (.lit (.int 6))) (.lit (.int 1))) [.assign (.var 2) (.bin .Add (.lit (.int 10)) (.bin .Mod (.bin .FloorDiv (.call "_law_cell_at" [(.var 0),(.lit (.int 0))]) (.lit (.int 30))) (.lit (.int 5))))] [],
 .ite (.cmp .Eq (.bin .Mod (.bin .FloorDiv (.call "_law_cell_at" [(.var 0),(.lit (.int 0))]) (.lit (.int 5))) (.lit (.int 12))) (.lit (.int 2))) [.assign (.var 2) (.bin .Add (.lit (.int 20)) (.bin .Mod (.bin .FloorDiv (.call "_law_cell_at" [(.var 0),(.lit (.int 0))]) (.lit (.int 60))) (.lit (.int 20))))] [],
 .assign (.var 3) (.comp (.call "_law_word" [(.var 11),(.call "_law_cell_at" [(.var 0),(.lit (.int 1))])]) 1 false (.prim .range [(.var 2)]) none),
 .assign (.var 4) (.slice (.list [(.lit (.str (ofString "one"))),(.lit (.str (ofString "two"))),(.lit (.str (ofString "three")))]) none (some (.bin .Mod (.call "_law_cell_at" [(.var 0),(.lit (.int 1))]) (.lit (.int 4)))) none),
 .assign (.var 5) (.dict [] []),
 .for (.var 6) (.var 4) [.expr (.meth (.var 1) "tell" [(.var 6),(.list [(.tuple [(.lit (.str (ofString "till"))),(.lit (.int 5))])]),(.list [(.tuple [(.lit (.str (ofString "quay"))),(.lit (.int 5))])]),(.list []),(.bin .Sub (.prim .len [(.var 6)]) (.lit (.int 3)))]),
  .expr (.meth (.var 1) "set_aside" [(.lit (.str (ofString "till"))),(.var 6)]),
  .assign (.sub (.var 5) (.var 6)) (.list [(.dict [(.lit (.str (ofString "till")))] [(.lit (.int 5))]),(.list []),(.bin .Sub (.prim .len [(.var 6)]) (.lit (.int 3))),(.list []),(.lit (.str (ofString "done")))])],
 .expr (.meth (.var 1) "settle" []),
 .for (.var 7) (.prim .range [(.var 2)]) [.assign (.var 8) (.call "_law_pact_by" [(.call "_law_mixed" [(.call "_law_cell_at" [(.var 0),(.bin .Add (.lit (.int 2)) (.bin .Mod (.var 7) (.lit (.int 60))))]),(.var 7)]),(.sub (.var 3) (.var 7)),(.bin .Add (.bin .Add (.var 3) (.var 4)) (.list [(.lit (.str (ofString "never"))),(.lit (.str (ofString "yet")))]))]),
  .assign (.var 9) (.prim .sum [(.bm (.sub (.var 8) (.lit (.int 0))) .values [])]),
  .expr (.meth (.var 1) "tell" [(.sub (.var 3) (.var 7)),(.prim .list [(.bm (.sub (.var 8) (.lit (.int 0))) .items [])]),(.list [(.tuple [(.lit (.str (ofString "till"))),(.var 9)])]),(.prim .list [(.sub (.var 8) (.lit (.int 1)))]),(.sub (.var 8) (.lit (.int 2)))]),
  .for (.var 10) (.sub (.var 8) (.lit (.int 3))) [.expr (.meth (.var 1) "set_aside" [(.var 10),(.sub (.var 3) (.var 7))])],
  .assign (.sub (.var 5) (.sub (.var 3) (.var 7))) (.var 8)],
 .ret (.var 5)]⟩
noncomputable def f_law:Fn:=⟨1,["_law_script","_law_book","_law_other","_law_purse","_law_one","_law_pacts_here","_law_kept","_law_many","_law_day","_law_held","_law_k","_law_cell","_law_some","_law_good","_law_fell_here","_law_name"],[
 .assign (.var 1) (.new "Book" []),
 .assign (.var 2) (.new "Book" []),
 .for (.var 3) (.list [(.lit (.str (ofString "till"))),(.lit (.str (ofString "quay")))]) [.for (.var 4) (.list [(.var 1),(.var 2)]) [.expr (.meth (.var 4) "open_purse" [(.var 3)]),
   .expr (.meth (.var 4) "put" [(.var 3),(.lit (.int 5000))])]],
 .assign (.var 5) (.call "_law_pacts" [(.var 0),(.var 1)]),
 .assign (.var 6) (.dict [] []),
 .ite (.cmp .Lt (.prim .len [(.var 5)]) (.lit (.int 20))) [.assign (.var 6) (.call "_law_pacts" [(.var 0),(.var 2)])] [],
 .assign (.var 7) (.lit (.int 10)),
 .ite (.cmp .Gt (.prim .len [(.var 0)]) (.lit (.int 63))) [.assign (.var 7) (.lit (.int 30))] [],
 .assign (.var 8) (.lit (.int 0)),
 .assign (.var 9) (.list []),
 .for (.var 10) (.prim .range [(.prim .min [(.var 7),(.prim .len [(.var 0)])])]) [.assign (.var 11) (.call "_law_mixed" [(.sub (.var 0) (.var 10)),(.bin .Add (.var 10) (.lit (.int 70)))]),
  .ite (.cmp .Eq (.bin .Mod (.var 11) (.lit (.int 2))) (.lit (.int 0))) [.assign (.var 12) (.bin .Add (.prim .list [(.var 5)]) (.list [(.lit (.str (ofString "never"))),(.sub (.list [(.lit (.int 7)),(.lit .none),(.list [(.lit (.str (ofString "one")))])]) (.bin .Mod (.bin .FloorDiv (.var 11) (.lit (.int 200))) (.lit (.int 3))))])),
   .assign (.tup [13,14]) (.call "_law_called" [(.var 1),(.var 5),(.sub (.var 12) (.bin .Mod (.bin .FloorDiv (.var 11) (.lit (.int 2))) (.prim .len [(.var 12)])))])] [.assign (.tup [13,14,8]) (.call "_law_passed" [(.var 1),(.var 5),(.var 11),(.var 8)])],
  .ite (.not (.var 13)) [.ret (.lit (.bool false))] [],
  .for (.var 15) (.var 14) [.assign (.sub (.sub (.var 5) (.var 15)) (.lit (.int 3))) (.list []),
   .assign (.sub (.sub (.var 5) (.var 15)) (.lit (.int 4))) (.lit (.str (ofString "fallen")))],
  .expr (.bm (.var 14) .append [(.lit (.str (ofString "more")))]),
  .expr (.bm (.var 9) .append [(.tuple [(.var 14),(.prim .list [(.var 14)])])]),
  .ite (.ao false [(.not (.call "_law_whole" [(.attr (.var 1) "day")])),(.cmp .NotEq (.attr (.var 1) "day") (.var 8)),(.not (.call "_law_same" [(.var 1),(.var 5),(.bin .FloorDiv (.var 11) (.lit (.int 3))),(.var 9)]))]) [.ret (.lit (.bool false))] []],
 .ite (.ao false [(.not (.call "_law_same" [(.var 1),(.var 5),(.lit (.int 1)),(.var 9)])),(.cmp .NotEq (.attr (.var 2) "day") (.lit (.int 0))),(.not (.call "_law_same" [(.var 2),(.var 6),(.lit (.int 0)),(.var 9)]))]) [.ret (.lit (.bool false))] [],
 .ret (.cmp .Eq (.comp (.var 16) 1 false (.var 9) (some (.cmp .NotEq (.sub (.var 16) (.lit (.int 0))) (.sub (.var 16) (.lit (.int 1)))))) (.list []))]⟩
noncomputable def P:Pg where
 fns:=[("are_met",BK.f_are_met),("table_of",BK.f_table_of),("greatest",BK.f_greatest),("is_whole",BK.f_is_whole),("is_name",BK.f_is_name),("name_of",BK.f_name_of),("amount_of",BK.f_amount_of),("_law_whole",BK.f__law_whole),("_law_cell_at",BK.f__law_cell_at),("_law_mixed",BK.f__law_mixed),("_law_word",Zmk),("_law_pact_by",f__law_pact_by),("_law_next",f__law_next),("_law_fell",f__law_fell),("_law_due_of",f__law_due_of),("_law_one_same",f__law_one_same),("_law_crossed",Zik),("_law_same",f__law_same),("_law_called",f__law_called),("_law_passed",f__law_passed),("_law_pacts",f__law_pacts),("law",f_law),("Pact.__init__",BK.f_Pact___init__),("Pact.part_of",BK.f_Pact_part_of),("Pact.is_full",BK.f_Pact_is_full),("Book.__init__",BK.f_Book___init__),("Book.need_purse",BK.f_Book_need_purse),("Book.need_pact",BK.f_Book_need_pact),("Book.need_open",BK.f_Book_need_open),("Book.open_purse",BK.f_Book_open_purse),("Book.put",BK.f_Book_put),("Book.pairs_of",BK.f_Book_pairs_of),("Book.needs_of",BK.f_Book_needs_of),("Book.tell",BK.f_Book_tell),("Book.set_aside",BK.f_Book_set_aside),("Book.given_back",BK.f_Book_given_back),("Book.fell",BK.f_Book_fell),("Book.first_dragged",BK.f_Book_first_dragged),("Book.dragged",BK.f_Book_dragged),("Book.call_off",BK.f_Book_call_off),("Book.pass_days",BK.f_Book_pass_days),("Book.standing",BK.f_Book_standing),("Book.settle",BK.f_Book_settle),("Book.purses",BK.f_Book_purses),("Book.told",BK.f_Book_told),("Book.free_of",BK.f_Book_free_of),("Book.aside_of",BK.f_Book_aside_of),("Book.state_of",BK.f_Book_state_of),("Book.inside_of",BK.f_Book_inside_of),("Book.full",BK.f_Book_full)]
 gfns:=["_wall","are_met","table_of","greatest","is_whole","is_name","name_of","amount_of","_law_whole","_law_cell_at","_law_mixed","_law_word","_law_pact_by","_law_next","_law_fell","_law_due_of","_law_one_same","_law_crossed","_law_same","_law_called","_law_passed","_law_pacts","law"]
 consts:=[("LETTERS",(.str (ofString "abcdefghijklmnopqrstuvwxyz"))),("MOST_SIGNS",(.int 12)),("MOST_AMOUNT",(.int 1000000000000000000000000000000)),("MOST",(.int 8))]
 excs:=[("BookError",["BookError","ValueError"]),("NoName",["NoName","BookError","ValueError"]),("NoAmount",["NoAmount","BookError","ValueError"]),("Taken",["Taken","BookError","ValueError"]),("NoPurse",["NoPurse","BookError","ValueError"]),("TooLittle",["TooLittle","BookError","ValueError"]),("NoRow",["NoRow","BookError","ValueError"]),("Twice",["Twice","BookError","ValueError"]),("Uneven",["Uneven","BookError","ValueError"]),("Fallen",["Fallen","BookError","ValueError"]),("NoDay",["NoDay","BookError","ValueError"]),("NoPact",["NoPact","BookError","ValueError"]),("NotOpen",["NotOpen","BookError","ValueError"]),("NoPart",["NoPart","BookError","ValueError"]),("Already",["Already","BookError","ValueError"])]
 classes:=["Pact","Book"]
 meths:=[("Pact","__init__"),("Pact","part_of"),("Pact","is_full"),("Book","__init__"),("Book","need_purse"),("Book","need_pact"),("Book","need_open"),("Book","open_purse"),("Book","put"),("Book","take"),("Book","pairs_of"),("Book","needs_of"),("Book","tell"),("Book","set_aside"),("Book","given_back"),("Book","draw_back"),("Book","fell"),("Book","first_dragged"),("Book","dragged"),("Book","call_off"),("Book","pass_days"),("Book","standing"),("Book","settle"),("Book","why_not"),("Book","purses"),("Book","told"),("Book","free_of"),("Book","aside_of"),("Book","state_of"),("Book","inside_of"),("Book","full")]
 attrs:=[("Book","aside"),("Book","day"),("Book","free"),("Book","pacts"),("Pact","gains"),("Pact","inside"),("Pact","last"),("Pact","name"),("Pact","needs"),("Pact","parts"),("Pact","state")]
 prims:=["all","bool","int","isinstance","len","list","min","range","str","sum"]
end Mine.L10
end
section
namespace Mine
open L10
theorem U10:HasP L10.P:=⟨⟨rfl,rfl,rfl,rfl,rfl,rfl,rfl,rfl,rfl,rfl,rfl,rfl,rfl,rfl⟩,rfl,rfl⟩
abbrev till:Str:=S9 "till"
abbrev quay:Str:=S9 "quay"
structure R10 where
 t:Addr
 pd:Addr
 ne:Addr
 u:Addr
noncomputable def rowL (r:R10) (x:Pc):List AV:=[.ref r.pd,.ref r.ne,.int x.last,.ref r.u,.str x.state.str]
structure Row10 (H:Zaa) (r:R10) (x:Pc):Prop where
 t:H r.t=some (.list (rowL r x))
 d:∃ ep,H r.pd=some (.dict ep (dI x.parts))
 n:H r.ne=some (.list (txs x.needs))
 u:H r.u=some (.list (txs x.inside))
structure Mir10 (H:Zaa) (pa:Addr) (rs:List R10) (X:List Pc):Prop where
 p:∃ ep,H pa=some (.dict ep (dP X (rs.map (·.t))))
 r:All2 (Row10 H) rs X
 nd:(rs.map (·.t)).Nodup
 sd:∀ r∈rs,r.pd≠pa
noncomputable def lsOf (rs:List R10):List Addr:=rs.flatMap fun r=>[r.t,r.ne,r.u]
theorem Z1r {X Y:List Pc} {ts:List Addr} (h:X.map (·.name)=Y.map (·.name)):dP X ts=dP Y ts:=by
 induction X generalizing Y ts with
 | nil=>cases Y with
  | nil=>rfl
  | cons=>exact absurd h.symm (cons_ne_nil _ _)
 | cons x X ih=>cases Y with
  | nil=>exact absurd h (cons_ne_nil _ _)
  | cons y Y=>cases ts with
   | nil=>rfl
   | cons t ts =>
    obtain ⟨h1,h2⟩:=List.cons.inj h;show (x.name,AV.ref t)::dP X ts=(y.name,AV.ref t)::dP Y ts;exact rl (show x.name=y.name from h1) (rl (ih h2) rfl)
section
variable {H H':Zaa} {pa:Addr} {rs:List R10} {X:List Pc} {k:Str} {j:Nat} {x:Pc} {r:R10} {Q:AV→Zaa→Prop} {E:String→Zaa→Prop}
theorem Row10.kp (h:Row10 H r x) (e:Kp H H'):Row10 H' r x:=let ⟨ep,hd⟩:=h.d;⟨e _ _ rfl h.t,⟨ep,e _ _ rfl hd⟩,e _ _ rfl h.n,e _ _ rfl h.u⟩
theorem Mir10.kp (M:Mir10 H pa rs X) (e:Kp H H'):Mir10 H' pa rs X:=let ⟨ep,hp⟩:=M.p;⟨⟨ep,e _ _ rfl hp⟩,M.r.map fun h=>h.kp e,M.nd,M.sd⟩
theorem Mir10.len (M:Mir10 H pa rs X):(rs.map (·.t)).length=X.length:=(length_map ..).trans M.r.len
theorem Mir10.row (M:Mir10 H pa rs X) (h:X[j]? = some x):∃ r,rs[j]? = some r∧Row10 H r x:=M.r.getR h
theorem Zlp (M:Mir10 H pa rs X) (h:pAt X k=some (j,x)) (q:∀ r,rs[j]? = some r→Row10 H r x→Q (.ref r.t) H):wsub (.ref pa) (.str k) Q H:=by
 obtain ⟨ep,hp⟩:=M.p;obtain ⟨r,hr,hrow⟩:=M.row (Zbi h).1
 (dsimp only [Ze1];refine rl hp ?_)
 exact ⟨.ref r.t,by refine rl (Zj1 M.len) (rl h ?_);show Option.map AV.ref ((rs.map (·.t))[j]?)=_;refine rl (getElem?_map) (rl hr ?_);rfl,q r hr hrow⟩
theorem Zpa {no:Bool} (M:Mir10 H pa rs X) (q:Q (.bool ((pAt X k).isSome != no)) H):win no (.str k) (.ref pa) Q H:=by
 obtain ⟨ep,hp⟩:=M.p;refine Zmt hp ?_;refine rl (Zj1 M.len) ?_;cases h:pAt X k with
 | none=>rw [h] at q;exact q
 | some e =>
  obtain ⟨r,hr,_⟩:=M.row (Zbi (j:=e.1) (q:=e.2) h).1;rw [h] at q;show Q (.bool ((Option.map AV.ref ((rs.map (·.t))[e.1]?)).isSome != no)) H;refine rl (getElem?_map) (rl hr ?_);exact q
theorem Zek {g:Gx} {V:VV} {i l m:Nat} {u:AV} (M:Mir10 H pa rs X) (hi:V[i]? = some (some (.ref pa))) (hl:V[l]? = some (some (.str k))) (hx:pAt X k=some (j,x)) (hr:rs[j]? = some r) (hm:(rowL r x)[m]? = some u) (q:Q u H):wpX g (.sub (.sub (.var i) (.var l)) (.lit (.int m))) V Q E H:=by
 dsimp only [Zav,Zad,Zai];refine rl hi (rl hl ?_);refine Zlp M hx fun r' hr' row=>?_;rw [hr] at hr';obtain rfl:=osi hr';exact Ze6 row.t hm (show 5≤1000 by decide) q
theorem Zkx (M:Mir10 H pa rs X):Zal H (.ref pa)=some (txs (X.map (·.name))):=by
 obtain ⟨ep,hp⟩:=M.p;unfold Zal;dsimp only;refine rl hp ?_;exact congrArg some (by show _=(X.map (·.name)).map AV.str;refine rl (Eq.symm (Zrs M.len)) (rl map_map ?_);rfl)
theorem Zpv {t:Addr} (ht:H t=some (.list (rowL r x))) {a:Addr} {l:List Str} (h:H a=some (.list (txs l))):a≠t:=fun e=>by
 rw [e,ht] at h;have:=AObj.list.inj (osi h);cases l with
 | nil=>exact absurd this (cons_ne_nil _ _)
 | cons s l=>exact absurd (List.cons.inj this).1 (by intro z;contradiction)
theorem Zs5 {t:Addr} {r':R10} {y:Pc} (ht:H t=some (.list (rowL r x))) (k:∀ a o,a≠t→H a=some o→H' a=some o) (hne:r'.t≠t) (h:Row10 H r' y):Row10 H' r' y:=by
 obtain ⟨ep,hd⟩:=h.d;exact ⟨k _ _ hne h.t,⟨ep,k _ _ (fun e=>by rw [e,ht] at hd;cases hd) hd⟩,k _ _ (Zpv ht h.n) h.n,k _ _ (Zpv ht h.u) h.u⟩
theorem Zy2 {l:List R10} {i:Nat} {a b:R10} (nd:(l.map (·.t)).Nodup) (hi:l[i]? = some a) (hj:l[j]? = some b) (e:a.t=b.t):i=j:=by
 have h1:(l.map (·.t))[i]? = some a.t:=by refine rl (getElem?_map) (rl hi ?_);rfl
 have h2:(l.map (·.t))[j]? = some a.t:=by refine rl (getElem?_map) (rl hj (rl e ?_));rfl
 exact (List.getElem?_inj (gsi h1).1 nd).mp (h1.trans h2.symm)
theorem Mir10.fall {z:Addr} (M:Mir10 H pa rs X) (hx:X[j]? = some x) (hr:rs[j]? = some r) (hz:H' z=some (.list [])) (ht:H' r.t=some (.list (rowL { r with u:=z } (x.end .fln)))) (k:∀ a o,a≠r.t→H a=some o→H' a=some o):Mir10 H' pa (rs.set j { r with u:=z }) (X.set j (x.end .fln)):=by
 obtain ⟨ep,hp⟩:=M.p;obtain ⟨r',hr',row⟩:=M.row hx;rw [hr] at hr';obtain rfl:=osi hr';have e1:(rs.set j { r with u:=z }).map (·.t)=rs.map (·.t):=Zg3 hr rfl;have e2:(X.set j (x.end .fln)).map (·.name)=X.map (·.name):=Zg3 hx rfl;obtain ⟨ed,hd⟩:=row.d;refine ⟨⟨ep,?_⟩,M.r.turn ⟨ht,⟨ed,k _ _ (fun e=>by rw [e,row.t] at hd;cases hd) hd⟩,k _ _ (Zpv row.t row.n) row.n,hz⟩ fun i y w hi hy hw h=>Zs5 row.t k (fun e=>hi (Zy2 M.nd hy hr e)) h,by refine rl e1 ?_;exact M.nd,fun r' h=>(List.mem_or_eq_of_mem_set h).elim (M.sd r') fun e=>by refine rl e ?_;exact M.sd r (mem_of_getElem? hr)⟩;refine rl e1 (rl (Z1r e2) ?_);exact k _ _ (fun e=>by rw [e,row.t] at hp;cases hp) hp
theorem Zh2 {a:Addr} (h:r∈rs) (ha:a=r.t∨a=r.ne∨a=r.u):a∈lsOf rs:=by
 refine mem_flatMap.mpr ⟨r,h,?_⟩;rcases ha with rfl | rfl | rfl
 ·exact .head _
 ·exact .tail _ (.head _)
 ·exact .tail _ (.tail _ (.head _))
theorem Zh3 (M:Mir10 H pa rs X):∀ u∈lsOf rs,H u≠none:=fun u hu=>by
 obtain ⟨r,hr,h⟩:=mem_flatMap.mp hu;obtain ⟨j,hj⟩:=List.getElem?_of_mem hr;have hl:=M.r.len;obtain ⟨x,hx⟩:∃ x,X[j]? = some x:=⟨X[j]'(hl▸(gsi hj).1),getElem?_eq_getElem _⟩
 obtain ⟨r',hr',row⟩:=M.row hx;rw [hj] at hr';obtain rfl:=osi hr';rcases mem_cons.mp h with rfl | h
 ·refine rl row.t ?_;intro z;contradiction
 rcases mem_cons.mp h with rfl | h
 ·refine rl row.n ?_;intro z;contradiction
 ·refine rl (mem_singleton.mp h) (rl row.u ?_);intro z;contradiction
theorem Mir10.kx (M:Mir10 H pa rs X) (k:∀ a o,(o.isL=true→a∈lsOf rs)→H a=some o→H' a=some o):Mir10 H' pa rs X:=by
 obtain ⟨ep,hp⟩:=M.p;have go:∀ {qs:List R10} {X},(∀ r∈qs,r∈rs)→All2 (Row10 H) qs X→All2 (Row10 H') qs X:=fun {qs X} hs h=>by
  induction qs generalizing X with
  | nil=>cases X with
   | nil=>trivial
   | cons=>exact h.elim
  | cons r qs ih=>cases X with
   | nil=>exact h.elim
   | cons x X =>
    obtain ⟨t,⟨e',d⟩,n,u⟩:=h.1;have hm:=hs r (.head _);exact ⟨⟨k _ _ (fun _=>Zh2 hm (.inl rfl)) t,⟨e',k _ _ (fun z=>by contradiction) d⟩,k _ _ (fun _=>Zh2 hm (.inr (.inl rfl))) n,k _ _ (fun _=>Zh2 hm (.inr (.inr rfl))) u⟩,ih (fun r h=>hs r (.tail _ h)) h.2⟩
 exact ⟨⟨ep,k _ _ (fun z=>by contradiction) hp⟩,go (fun _ h=>h) M.r,M.nd,M.sd⟩
end
end Mine
end
section
namespace Mine
open L10
noncomputable def nxP (L:List Str) (x:Pc):Bool:=x.state==.opn&&!decide (x.name∈L)&&x.needs.any fun k=>decide (k∈L)
noncomputable def Zij (X:List Pc) (L:List Str):Option Str:=(fAt (nxP L) X).map (·.2.name)
noncomputable def oS:Option Str→AV
 | some s=>.str s
 | none=>.none
inductive NxI (pa fl:Addr) (L:List Str) (X:List Pc) (H:Zaa) (m:Nat) (V':VV) (H':Zaa):Prop
 | mk (p2 p3 p4 p5 p6 p7 p8:Option AV) (hV:V'=[some (.ref pa),some (.ref fl),p2,p3,p4,p5,p6,p7,p8]) (hH:H=H') (hno:∀ i y,i<m→X[i]? = some y→nxP L y=false)
inductive NdI (V:VV) (w:Option AV) (ns L:List Str) (H:Zaa) (m:Nat) (V':VV) (H':Zaa):Prop
 | mk (p8:Option AV) (hV:V'=V.set 8 p8) (hH:H=H') (hno:∀ i k,i<m→ns[i]? = some k→k ∉ L)
section
variable {c:Cx} (G:Gd c L10.P) {n:Nat} {Q:AV→Zaa→Prop} {E:String→Zaa→Prop} {H:Zaa} {pa fl:Addr} {rs:List R10} {X:List Pc} {L:List Str}
include G
theorem Zqo (M:Mir10 H pa rs X) (nd:(X.map (·.name)).Nodup) (hf:H fl=some (.list (txs L))) (q:Q (oS (Zij X L)) H):CallOK c (n+1) true "_law_next" [.ref pa,.ref fl] Q E H:=by
 refine G.call (F:=L10.f__law_next) rfl rfl ?_;refine w_st fun K nx=>?_;dsimp only [Zb3,Zad];refine ⟨rfl,?_⟩;refine Zdb (Zkx M) (NxI pa fl L X H) ⟨_,_,_,_,_,_,_,rfl,rfl,fun i y hi=>absurd hi (not_lt_zero _)⟩ ?_;rintro J hJ m V' H' ⟨p2,p3,p4,p5,p6,p7,p8,rfl,rfl,hno⟩;refine ⟨rfl,fun hm=>?_,fun v hv=>⟨show 2<9 by decide,?_⟩⟩
 ·rw [Zaf,length_map] at hm;refine nx _ _ ?_;have:Zij X L=none:=by
   unfold Zij;refine rl (Zjz fun i y h=>hno i y (hm▸(gsi h).1) h) ?_;rfl
  rw [this] at q;exact q
 unfold txs at hv;rw [getElem?_map,getElem?_map,Option.map_map,map_eq_some_iff] at hv;obtain ⟨x,hx,rfl⟩:=hv;have hp:pAt X x.name=some (m,x):=Zci nd hx;have hs1:∀ {b},nxP L x=b→b=true→Zij X L=some x.name:=fun h e=>by
  unfold Zij;refine rl (Zml hno hx (h.trans e)) ?_;rfl
 have hs0:nxP L x=false→∀ i y,i<m+1→X[i]? = some y→nxP L y=false:=fun h i y hi hy=>by
  by_cases e:i=m
  ·rw [e,hx] at hy;obtain rfl:=osi hy;exact h
  ·exact hno i y (by lia) hy
 show wpSs _ _ _ _ _ [some (.ref pa),some (.ref fl),some (.str x.name),p3,p4,p5,p6,p7,p8] _;refine w_st fun K1 nx1=>?_;dsimp only [Zam,Zav,Zad,getElem?_cons_succ,v_0];refine Zlp M hp fun r hr row=>⟨rfl,?_⟩
 show Zb7 5 (.ref r.t) H _;unfold Zb7;dsimp only;refine rl row.t ?_;refine ⟨rfl,nx1 _ _ ?_⟩;show wpSs _ _ _ _ _ [some (.ref pa),some (.ref fl),some (.str x.name),some (.ref r.pd),some (.ref r.ne),some (.int x.last),some (.ref r.u),some (.str x.state.str),p8] _;dsimp only [Zaw,Zby,Zay,x_ao,Zat,Za1,Zao,Zad,Zai];show wcmp .Eq (.str x.state.str) (.str (ofString "open")) _ _;dsimp only [Zcg,Zaj];refine rl Zf4 ?_;unfold nxP at hs1 hs0;cases ho:x.state==Sta.opn with
 | false =>
  rw [ho] at hs0;exact hJ _ _ _ ⟨_,_,_,_,_,_,_,rfl,rfl,hs0 rfl⟩
 | true =>
 rw [ho] at hs0 hs1;refine Eq.mpr (if_pos rfl) ?_;dsimp only [Zc7];refine Zjd hf ?_;dsimp only [Zaj];by_cases hn:x.name∈L
 ·rw [decide_eq_true hn] at hs0 ⊢;exact hJ _ _ _ ⟨_,_,_,_,_,_,_,rfl,rfl,hs0 rfl⟩
 rw [decide_eq_false hn] at hs0 hs1 ⊢;refine Eq.mpr (if_pos rfl) ?_;dsimp only [Zb3,Zad];refine ⟨rfl,?_⟩;show WFor _ _ (.ref r.ne) _ _;refine Zdb (xs:=txs x.needs) (by simp only [Zal,row.n]) (NdI [some (.ref pa),some (.ref fl),some (.str x.name),some (.ref r.pd),some (.ref r.ne),some (.int x.last),some (.ref r.u),some (.str x.state.str),p8] p8 x.needs L H) ⟨p8,rfl,rfl,fun i y hi=>absurd hi (not_lt_zero _)⟩ ?_;rintro J2 hJ2 i V' H' ⟨q8,rfl,rfl,hnd⟩;refine ⟨rfl,fun hm=>?_,fun v hv=>⟨show 8<9 by decide,?_⟩⟩
 ·refine hJ _ _ _ ⟨_,_,_,_,_,_,_,rfl,rfl,hs0 ?_⟩;rw [Zaf] at hm;show x.needs.any _=false;rw [List.any_eq_false];intro k hk;obtain ⟨i',hi'⟩:=List.getElem?_of_mem hk;refine rl (decide_eq_false (hnd i' k (hm▸(gsi hi').1) hi')) ?_;exact Bool.false_ne_true
 unfold txs at hv;rw [getElem?_map,map_eq_some_iff] at hv;obtain ⟨k,hk,rfl⟩:=hv;dsimp only [Zaw,Zby,Zay,Zao,Zad];show wcmp .In (.str k) (.ref fl) _ _;dsimp only [c_in];refine Zjd hf ?_;dsimp only [Zaj];by_cases hkL:k∈L
 ·refine rl (decide_eq_true hkL) ?_;refine Eq.mpr (if_pos rfl) ?_;have:Zij X L=some x.name:=hs1 (b:=true) (by show x.needs.any _=true;exact any_eq_true.mpr ⟨k,mem_of_getElem? hk,decide_eq_true hkL⟩) rfl;rw [this] at q;exact q
 ·refine rl (decide_eq_false hkL) ?_;refine Eq.mpr (if_neg (by decide)) (hJ2 _ _ _ ⟨some (.str k),rfl,rfl,fun i' k' hi' hk'=>?_⟩);by_cases e:i'=i
  ·rw [e,hk] at hk';obtain rfl:=osi hk';exact hkL
  ·exact hnd i' k' (by lia) hk'
end
end Mine
end
section
namespace Mine
noncomputable def fl1 (L:List Str) (x:Pc):Pc:=if x.name∈L then x.end .fln else x
noncomputable def Zef (L:List Str) (X:List Pc):List Pc:=X.map (fl1 L)
theorem Zug {L:List Str} {x:Pc}:(fl1 L x).name=x.name:=by unfold fl1;split<;>rfl
theorem Zkm {L:List Str} {X:List Pc} {k:Str}:pAt (Zef L X) k=(pAt X k).map fun e=>(e.1,fl1 L e.2):=by
 induction X with
 | nil=>rfl
 | cons x X ih =>
  show pAt (fl1 L x::Zef L X) k=_;unfold pAt;refine rl Zug ?_;by_cases h:x.name=k
  ·refine rl (if_pos h) (rl (if_pos h) ?_);rfl
  ·refine rl (if_neg h) (rl (if_neg h) (rl ih ?_));cases pAt X k<;>rfl
theorem Zxe {g h:Pc→Bool} {f:Pc→Pc} {X:List Pc} (e:∀ x∈X,g (f x)=h x) (k:∀ x,h x=true→f x=x):fAt g (X.map f)=fAt h X:=by
 induction X with
 | nil=>rfl
 | cons x X ih =>
  show (if g (f x) then some (0,f x) else (fAt g (X.map f)).map fun e=>(e.1+1,e.2))=if h x then some (0,x) else (fAt h X).map fun e=>(e.1+1,e.2)
  refine rl (e x (.head _)) (rl (ih fun x hx=>e x (.tail _ hx)) ?_);cases hx:h x with
  | false=>rfl
  | true=>exact rl (k x hx) rfl
theorem Zuh {g:Pc→Bool} {X:List Pc} (h:fAt g X=none):∀ x∈X,g x=false:=by
 induction X with
 | nil=>exact fun x hx=>by contradiction
 | cons y X ih =>
  have h:(if g y then some (0,y) else (fAt g X).map fun e=>(e.1+1,e.2))=none:=h;intro x hx;cases hy:g y with
  | true=>rw [hy] at h;contradiction
  | false =>
   rw [hy] at h;rcases mem_cons.mp hx with rfl | hx
   ·exact hy
   ·refine ih ?_ x hx;cases e:fAt g X with
    | none=>rfl
    | some z=>rw [e] at h;contradiction
def Clo (B:Bk):Prop:=∀ x∈B.pacts,x.state = .opn→∀ k∈x.needs,Zbo B k=false
theorem Zz1 {B:Bk} (h:Zcd B=none):Clo B:=fun x hx ho k hk=>by
 have:=Zuh h x hx;unfold Zic at this;rw [ho] at this;have:x.needs.any (Zbo B)=false:=this;exact Bool.eq_false_iff.mpr ((List.any_eq_false.mp this) k hk)
structure Fal (B0 B:Bk) (L:List Str):Prop where
 p:B.pacts=Zef L B0.pacts
 m:∀ k∈L,k∈B0.pacts.map (·.name)
section
variable {B0 B:Bk} {L:List Str} {j:Nat} {x:Pc} {X:List Pc}
theorem Zo0 (F:Fal B0 B L) {k:Str}:Zbo B k=(decide (k∈L)||Zbo B0 k):=by
 unfold Zbo;rw [F.p,Zkm];by_cases h:k∈L
 ·obtain ⟨e,he⟩:=Zga (F.m k h);have hn:=(Zbi (j:=e.1) (q:=e.2) he).2;rw [he,decide_eq_true h];show ((fl1 L e.2).state==Sta.fln)=true;unfold fl1;rw [if_pos (by rw [hn];exact h)];rfl
 ·rw [decide_eq_false h];cases he:pAt B0.pacts k with
  | none=>rfl
  | some e =>
   have hn:=(Zbi (j:=e.1) (q:=e.2) he).2;show ((fl1 L e.2).state==Sta.fln)=(false||e.2.state==Sta.fln)
   unfold fl1;exact rl (if_neg (by rw [hn];exact h) ..) (rl (Bool.false_or ..) rfl)
theorem Zi6 (F:Fal B0 B L) (cl:Clo B0):Zcd B=fAt (nxP L) B0.pacts:=by
 unfold Zcd;rw [show B.pacts=B0.pacts.map (fl1 L) from F.p];refine Zxe (fun x hx=>?_) fun x h=>?_
 ·unfold fl1 nxP;by_cases h:x.name∈L
  ·rw [if_pos h,decide_eq_true h];show (false&&_)=(_&&false&&_)
   rw [Bool.and_false,Bool.false_and,Bool.false_and]
  ·rw [if_neg h,decide_eq_false h];unfold Zic;cases ho:x.state==Sta.opn with
   | false=>rfl
   | true =>
    show x.needs.any (Zbo B)=x.needs.any _;have:=cl x hx (eq_of_beq ho);rw [Bool.eq_iff_iff,any_eq_true,any_eq_true];have e:∀ k∈x.needs,Zbo B k=decide (k∈L):=fun k hk=>by exact rl (Zo0 F ..) (rl (this k hk ..) (rl (Bool.or_false ..) rfl))
    exact ⟨fun ⟨k,hk,h⟩=>⟨k,hk,by rw [← e k hk];exact h⟩,fun ⟨k,hk,h⟩=>⟨k,hk,by rw [e k hk];exact h⟩⟩
 ·unfold fl1;refine if_neg fun hm=>?_;unfold nxP at h;rw [decide_eq_true hm] at h;rw [show (x.state==Sta.opn&&!true&&x.needs.any fun k=>decide (k∈L))=false by exact rl (Bool.not_true ..) (rl (Bool.and_false ..) (rl (Bool.false_and ..) rfl))] at h;contradiction
theorem Zk7 (nd:(X.map (·.name)).Nodup) (hx:X[j]? = some x):(Zef L X).set j (x.end .fln)=Zef (L++[x.name]) X:=by
 refine List.ext_getElem? fun i=>?_;unfold Zef;rw [List.getElem?_set,getElem?_map,getElem?_map,length_map];by_cases e:j=i
 ·rw [if_pos e,if_pos (e▸(gsi hx).1),← e,hx];show _=some (fl1 (L++[x.name]) x);unfold fl1;exact rl (if_pos (mem_append_right _ (.head _))) rfl
 ·rw [if_neg e];cases hy:X[i]? with
  | none=>rfl
  | some y =>
   have hne:y.name≠x.name:=fun z=>e (by
    have h1:(X.map (·.name))[j]? = some x.name:=by rw [getElem?_map,hx];rfl
    have h2:(X.map (·.name))[i]? = some x.name:=by rw [getElem?_map,hy];exact congrArg some z
    exact (List.getElem?_inj (gsi h1).1 nd).mp (h1.trans h2.symm))
   show some (fl1 L y)=some (fl1 (L++[x.name]) y);unfold fl1;have:y.name∈L++[x.name]↔y.name∈L:=⟨fun h=>(mem_append.mp h).resolve_right fun z=>hne (mem_singleton.mp z),fun h=>mem_append_left _ h⟩
   exact congrArg some (ite_congr (propext this.symm) (fun _=>rfl) fun _=>rfl)
theorem Fal.fell (F:Fal B0 B L) (nd:(B0.pacts.map (·.name)).Nodup) (hx:B0.pacts[j]? = some x):Fal B0 (Zdf B j x) (L++[x.name]):=by
 refine ⟨?_,fun k hk=>?_⟩
 ·show B.pacts.set j (x.end .fln)=_;refine rl F.p ?_;exact Zk7 nd hx
 ·rcases mem_append.mp hk with h | h
  ·exact F.m k h
  ·refine rl (mem_singleton.mp h) ?_;exact mem_map_of_mem (mem_of_getElem? hx)
theorem Zju (F:Fal B0 B L) (cl:Clo B0):Zij B0.pacts L=(Zcd B).map (·.2.name):=by
 unfold Zij;exact rl (Zi6 F cl) rfl
structure Chn (X:List Pc) (L L2:List Str):Prop where
 a:L2.take L.length=L
 n:∀ k s,L.length≤k→L2[k]? = some s→Zij X (L2.take k)=some s
 e:Zij X L2=none
theorem Znw (nd:(B0.pacts.map (·.name)).Nodup) (cl:Clo B0):∀ (n:Nat) {B:Bk} {L:List Str},Fal B0 B L→Zqb B≤n→Fal B0 (Za9 n B L).1 (Za9 n B L).2∧Chn B0.pacts L (Za9 n B L).2:=by
 have base:∀ {n:Nat} {B:Bk} {L:List Str},Fal B0 B L→Zcd B=none→Fal B0 (Za9 n B L).1 (Za9 n B L).2∧Chn B0.pacts L (Za9 n B L).2:=fun {n B L} F h=>by
  refine rl (Zc5 h) ?_;exact ⟨F,take_length,(fun k s hk hs=>by rw [List.getElem?_eq_none hk] at hs;contradiction),by refine rl (Zju F cl) (rl h ?_);rfl⟩
 intro n
 induction n with
 | zero =>
  intro B L F ho;refine base F ?_;cases h:Zcd B with
  | none=>rfl
  | some e =>
   obtain ⟨h1,h2⟩:=Zh9 (m:=e.1) (x:=e.2) h;have h3:(e.2.state==.opn)=true:=by
    unfold Zic at h2;cases z:e.2.state==Sta.opn with
    | true=>rfl
    | false=>rw [z] at h2;contradiction
   have:=Zgb h1 h3;lia
 | succ n ih =>
  intro B L F ho;cases h:Zcd B with
  | none=>exact base F h
  | some e =>
   refine rl (Zc4 h) ?_;have hf:=Zi6 F cl;rw [h] at hf;obtain ⟨h1,h2⟩:=Zh9 (m:=e.1) (x:=e.2) hf.symm;obtain ⟨g1,g2⟩:=Zh9 (m:=e.1) (x:=e.2) h;have h3:(e.2.state==.opn)=true:=by
    unfold Zic at g2;cases z:e.2.state==Sta.opn with
    | true=>rfl
    | false=>rw [z] at g2;contradiction
   have:=Zgb g1 h3;obtain ⟨F',C⟩:=ih (F.fell nd h1) (by lia);refine ⟨F',?_,fun k s hk hs=>?_,C.e⟩
   ·have:=congrArg (List.take L.length) C.a;rw [List.take_take,length_append,min_eq_left (le_add_right _ _),List.take_left] at this;exact this
   ·by_cases ek:k=L.length
    ·have hl:(Za9 n (Zdf B e.1 e.2) (L++[e.2.name])).2.take L.length=L:=by
      have:=congrArg (List.take L.length) C.a;rw [List.take_take,length_append,min_eq_left (le_add_right _ _),List.take_left] at this;exact this
     rw [ek] at hs ⊢;refine rl hl (rl (Zju F cl) (rl h ?_));have h4:((Za9 n (Zdf B e.1 e.2) (L++[e.2.name])).2.take (L++[e.2.name]).length)[L.length]? = some e.2.name:=by
      refine rl (C.a ..) (rl (getElem?_append_right (le_refl _) ..) (rl (sub_self ..) ?_));rfl
     rw [List.getElem?_take_of_lt (by refine rl length_append ?_;exact lt_succ_self _),hs] at h4;refine rl (osi h4) ?_;rfl
    ·exact C.n k s (by refine rl length_append ?_;show L.length+1≤k;lia) hs
noncomputable def Zfz (d:Int) (X:List Pc):List Str:=(X.filter (Zfa d)).map (·.name)
theorem Znj {d:Int} (nd:(B0.pacts.map (·.name)).Nodup) (hp:B.pacts=B0.pacts):∀ m,m≤B0.pacts.length→Fal B0 (late d m B).1 (Zfz d (B0.pacts.take m))∧(late d m B).2=Zfz d (B0.pacts.take m):=by
 intro m
 induction m with
 | zero =>
  intro _;refine ⟨⟨?_,fun k hk=>?_⟩,rfl⟩
  ·show B.pacts=Zef [] B0.pacts;rw [hp];exact (map_id _).symm
  ·contradiction
 | succ m ih =>
  intro hm;obtain ⟨F,e⟩:=ih (Nat.le_of_succ_le hm);have hx:B0.pacts[m]? = some (B0.pacts[m]'hm):=getElem?_eq_getElem hm;generalize B0.pacts[m]'hm=x at hx;have ht:B0.pacts.take (m+1)=B0.pacts.take m++[x]:=Zb4 hx;have hn:x.name ∉ Zfz d (B0.pacts.take m):=fun z=>by
   have h1:(B0.pacts.take m++[x]).map (·.name)=(B0.pacts.map (·.name)).take (m+1):=by rw [← ht,List.map_take]
   have h2:=nd.sublist (take_sublist (m+1) (B0.pacts.map (·.name)));rw [← h1,map_append] at h2;obtain ⟨y,hy,e⟩:=mem_map.mp z;exact (nodup_append.mp h2).2.2 _ (mem_map_of_mem (mem_filter.mp hy).1) _ (.head _) e
  have hx':(late d m B).1.pacts[m]? = some x:=by
   rw [F.p];unfold Zef;rw [getElem?_map,hx];show some (fl1 _ x)=_;unfold fl1;exact rl (if_neg hn) rfl
  have hs:Zfz d (B0.pacts.take (m+1))=Zfz d (B0.pacts.take m)++(if Zfa d x then [x.name] else []):=by
   unfold Zfz;rw [ht,filter_append,map_append];cases h:Zfa d x<;>simp [h]
  rw [Zni hx',hs];cases h:Zfa d x with
  | false=>rw [if_neg Bool.false_ne_true,if_neg Bool.false_ne_true,append_nil];exact ⟨F,e⟩
  | true=>exact ⟨F.fell nd hx,congrArg (·++[x.name]) e⟩
theorem Zwm {k:Str} (nd:(B0.pacts.map (·.name)).Nodup) (cl:Clo B0) (hx:pAt B0.pacts k=some (j,x)):Fal B0 (Za9 B0.pacts.length (Zdf B0 j x) [x.name]).1 (Za9 B0.pacts.length (Zdf B0 j x) [x.name]).2∧Chn B0.pacts [k] (Za9 B0.pacts.length (Zdf B0 j x) [x.name]).2:=by
 obtain ⟨h1,h2⟩:=Zbi hx;have F:Fal B0 B0 []:=⟨(map_id _).symm,fun k hk=>by contradiction⟩
 refine rl h2.symm ?_;refine Znw nd cl _ (F.fell nd h1) ?_;refine rl (Eq.symm (fell_len (B:=B0) (j:=j) (x:=x))) ?_;exact Zjs
theorem Zti {i:Int} (nd:(B0.pacts.map (·.name)).Nodup) (cl:Clo B0):Fal B0 (Zhq B0 i).1 (Zhq B0 i).2∧Chn B0.pacts (Zfz (B0.day+i) B0.pacts) (Zhq B0 i).2:=by
 obtain ⟨F,e⟩:=Znj (B0:=B0) (B:={ B0 with day:=B0.day+i }) (d:=B0.day+i) nd rfl B0.pacts.length (le_refl _);rw [take_length] at F e;unfold Zhq;refine rl e ?_;refine Znw nd cl _ F ?_;have h:=congrArg List.length F.p;unfold Zef at h;rw [length_map] at h;exact le_trans Zjs (le_of_eq h)
end
end Mine
end
section
namespace Mine
open L10
theorem isl {P:Pg} {H:Zaa} {f:Addr} {l:List AV} (h:H f=some (.list l)):Zcc P H (.ref f) "list" = some true:=by
 unfold Zcc Ze0;refine rl (if_pos (.inr (.inr (.inr rfl)))) ?_;dsimp only;refine rl h ?_;rfl
theorem Zz4 {Q:AV→Zaa→Prop} {H:Zaa} {a:AV}:wcmp .Is a .none Q H=Q (.bool (a==.none)) H:=rfl
theorem Zx3 {s:Str}:(AV.str s==AV.none)=false:=beq_eq_false_iff_ne.mpr fun z=>by contradiction
theorem Zje {l:List Str} {m:Nat}:Zb1 (txs l) none (some (m:Int)) none=txs (l.take m):=by
 rw [Zp2];unfold txs;rw [List.map_take]
theorem Zio {l:List Str} {k:Nat} {s:Str} (h:l[k]? = some s):(txs l)[k]? = some (.str s):=by
 unfold txs;refine rl (getElem?_map) (rl h ?_);rfl
theorem Zyk {md:Bool} {Q:AV→Zaa→Prop} {H:Zaa} {a b:Nat} (h1:a≤100000) (h2:b≤100000) (q:∀ z H',Ext H H'→Zal H' (.ref z)=some ((List.range (b - a)).map fun k=>AV.int ((a+k:Nat):Int))→Q (.ref z) H'):Zc1 md .range [.int a,.int b] Q H:=by
 refine rl Zfo ⟨⟨by lia,by lia,by lia,by lia⟩,fun z hz=>q z _ (Ext.refl.new hz) ?_⟩;unfold Zal;dsimp only;refine rl Zac ?_;show some _=some _;congr 1;refine rl (show ((b:Int) - (a:Int)).toNat=b - a by lia) ?_;exact map_congr_left fun k _=>congrArg AV.int (Int.natCast_add a k).symm
inductive FlI (V:VV) (H:Zaa) (m:Nat) (V':VV) (H':Zaa):Prop
 | mk (p3:Option AV) (hV:V'=V.set 3 p3) (hE:Ext H H')
theorem Zzw {H H':Zaa} {z:Addr} {xs:List AV} (h:Zal H (.ref z)=some xs) (e:Ext H H'):Zdu H H' (.ref z):=by
 show H' z=H z;cases hz:H z with
 | none=>unfold Zal at h;dsimp only at h;rw [hz] at h;contradiction
 | some o=>exact e _ _ hz
section
variable {c:Cx} (G:Gd c L10.P) {n:Nat} {Q:AV→Zaa→Prop} {E:String→Zaa→Prop} {H:Zaa} {pa f fi:Addr} {rs:List R10} {X:List Pc} {L L2:List Str}
include G
theorem Zk6 (M:Mir10 H pa rs X) (nd:(X.map (·.name)).Nodup) (hf:H f=some (.list (txs L2))) (hi:H fi=some (.list (txs L))) (C:Chn X L L2) (l1:L.length≤1000) (l2:L2.length≤1000) (q:∀ H',Ext H H'→Q (.bool true) H'):CallOK c (n+2) true "_law_fell" [.ref pa,.ref f,.ref fi] Q E H:=by
 refine G.call (F:=L10.f__law_fell) rfl rfl ?_;have t1:(txs L).length≤100000:=by refine rl Zaf ?_;lia
 have t2:(txs L2).length≤100000:=by refine rl Zaf ?_;lia
 have t2':(txs L2).length≤1000:=by refine rl Zaf ?_;exact l2
 refine w_st fun K nx=>?_;show wpS _ _ _ _ _ [some (.ref pa),some (.ref f),some (.ref fi),none] _;dsimp only [Zay,x_ao,Zat,Za1,Za6,Zbh,Zad,Zao,Zap,Zbn,Zbk,Zak,Zae,Zag];show match Zcc c.P H (.ref f) "list" with | some b=>_ | none=>False
 refine rl (isl hf) ?_;dsimp only [Zaj];refine Eq.mpr (if_pos rfl) ?_;refine Zjr hi t1 ?_;refine Zc2 (l:=none) (u:=some (txs L).length) (t:=none) hf rfl rfl rfl (fun e=>by contradiction) t2' fun z H1 E1 _ hz=>?_;rw [Zaf,Zje,C.a] at hz;show wcmp .NotEq (.ref z) (.ref fi) _ _;dsimp only [Zuo];refine Zhb hz (E1 _ _ hi) ?_;refine rl (decide_eq_true rfl) ?_;dsimp only [Zaj];refine Eq.mpr (if_neg (by decide)) (nx _ _ ?_);have M1:=M.kp (.ext E1);have hf1:=E1 _ _ hf;have hi1:=E1 _ _ hi;refine w_st fun K nx=>?_;dsimp only [Zb3,Zak,Zae,Zag,Zad];refine ⟨rfl,?_⟩;refine Zjr hi1 t1 (Zjr hf1 t2 ?_);refine Zyk t1 t2 fun zr H2 E2 hr=>?_;rw [Zaf,Zaf] at hr;refine Zdb hr (FlI [some (.ref pa),some (.ref f),some (.ref fi),none] H2) ⟨none,rfl,.refl⟩ ?_;rintro J hJ m V' H' ⟨p3,rfl,hE⟩;have EH:=(E1.trans E2).trans hE;have M':=M.kp (.ext EH);have hf':=EH _ _ hf;refine ⟨Zzw hr hE,fun hm=>nx _ _ ?_,fun v hv=>⟨show 3<4 by decide,?_⟩⟩
 ·refine w_st fun K nx=>?_;dsimp only [Zbq,Zao,Zan,Zae,Zag,Zad];refine Zqo G M' nd hf' ?_;refine rl C.e ?_;show wcmp .Is .none .none _ _;refine rl (Zz4 ..) (rl (beq_self_eq_true ..) ?_);exact q H' EH
 rw [getElem?_map,map_eq_some_iff] at hv;obtain ⟨k,hk,rfl⟩:=hv;have hkl:=(gsi hk).1;have hkm:k=m:=by
  rw [length_range] at hkl;rw [List.getElem?_range hkl] at hk;exact (osi hk).symm
 rw [length_range] at hkl;have hlt:L.length+k<L2.length:=by lia
 have hs:L2[L.length+k]? = some (L2[L.length+k]'hlt):=getElem?_eq_getElem hlt;generalize L2[L.length+k]'hlt=s at hs;have hn:=C.n _ s (le_add_right _ _) hs;show wpSs _ _ _ _ _ [some (.ref pa),some (.ref f),some (.ref fi),some (.int ((L.length+k:Nat):Int))] _;dsimp only [Zaw,Zby,Zay,x_ao,Zat,Za1,Zao,Zav,Zad,Zai];refine Ze6 hf' (Zio hs) t2' ?_;refine rl Zz4 (rl Zx3 ?_);dsimp only [Zaj];refine Eq.mpr (if_pos rfl) ?_;refine Ze6 hf' (Zio hs) t2' ?_;dsimp only [Zan,Zae,Zag,Zap,Zad,Zbn,Zbk];refine Zc2 (l:=none) (u:=some ((L.length+k:Nat):Int)) (t:=none) hf' rfl rfl rfl (fun e=>by contradiction) t2' fun z H3 E3 _ hz=>?_;rw [Zje] at hz;refine Zqo G (M'.kp (.ext E3)) nd hz ?_;refine rl hn ?_;show wcmp .NotEq (.str s) (.str s) _ _;dsimp only [Zds,Zaj];refine Eq.mpr (if_neg (by refine rl (bne_self_eq_false ..) ?_;exact Bool.false_ne_true)) (hJ _ _ _ ⟨_,rfl,hE.trans E3⟩)
end
end Mine
end
section
namespace Mine
open L10
abbrev Zcl:List Str:=[till,quay]
theorem Zdc:∀ s∈Zcl,isNm s=true:=by decide +kernel
noncomputable def fB (p:Pc→Bool) (X:List Pc):AV→Option AV
 | .str s=>match pAt X s with
  | some e=>if p e.2 then some (.str s) else none
  | none=>none
 | _=>none
theorem Zxd {p:Pc→Bool} {X:List Pc} {j:Nat} {x:Pc} (h:pAt X x.name=some (j,x)):fB p X (.str x.name)=if p x then some (.str x.name) else none:=by unfold fB;dsimp only;exact rl h rfl
theorem Zvm {p:Pc→Bool} {X:List Pc} (nd:(X.map (·.name)).Nodup):∀ {Y:List Pc},(∀ x∈Y,x∈X)→(txs (Y.map (·.name))).filterMap (fB p X)=txs ((Y.filter p).map (·.name)):=fun {Y} h=>by
 induction Y with
 | nil=>rfl
 | cons x Y ih =>
  obtain ⟨j,hj⟩:=mem_iff_getElem?.mp (h x (.head _));refine rl filterMap_cons (rl (Zxd (Zci nd hj)) (rl filter_cons ?_));cases hp:p x with
  | true=>refine rl (if_pos rfl) (rl (if_pos rfl) ?_);show AV.str x.name::_=AV.str x.name::_;refine rl (ih fun x hx=>h x (.tail _ hx)) ?_;rfl
  | false=>refine rl (if_neg Bool.false_ne_true) (rl (if_neg Bool.false_ne_true) ?_);exact ih fun x hx=>h x (.tail _ hx)
noncomputable def fD (X:List Pc) (k:Str):AV→Option AV
 | .str s=>match pAt X s with
  | some e=>if k∈e.2.inside then some (.int (vl e.2.parts k)) else none
  | none=>none
 | _=>none
theorem Zzv {X:List Pc} {k:Str} (nd:(X.map (·.name)).Nodup):∀ {Y:List Pc},(∀ x∈Y,x∈X)→∃ ns:List Int,(txs (Y.map (·.name))).filterMap (fD X k)=ns.map .int∧ns.sum=sm Y fun x=>if k∈x.inside then vl x.parts k else 0:=fun {Y} h=>by
 induction Y with
 | nil=>exact ⟨[],rfl,rfl⟩
 | cons x Y ih =>
  obtain ⟨ns,h1,h2⟩:=ih fun x hx=>h x (.tail _ hx);obtain ⟨j,hj⟩:=mem_iff_getElem?.mp (h x (.head _));have hp:pAt X x.name=some (j,x):=Zci nd hj;have hf:fD X k (.str x.name)=if k∈x.inside then some (.int (vl x.parts k)) else none:=by unfold fD;dsimp only;rw [hp]
  show ∃ ns:List Int,(AV.str x.name::txs (Y.map (·.name))).filterMap (fD X k)=_∧_;rw [filterMap_cons,hf];by_cases hk:k∈x.inside
  ·refine ⟨vl x.parts k::ns,?_,?_⟩
   ·rw [if_pos hk,h1];rfl
   ·show vl x.parts k+ns.sum=(if k∈x.inside then vl x.parts k else 0)+sm Y _;exact rl (if_pos hk) (rl h2 rfl)
  ·refine ⟨ns,?_,?_⟩
   ·rw [if_neg hk];exact h1
   ·show ns.sum=(if k∈x.inside then vl x.parts k else 0)+sm Y _;exact rl (if_neg hk ..) (rl (h2 ..) (rl (Int.zero_add ..) rfl))
section
variable {g:Gx} {V:VV} {H:Zaa} {K:VV→Zaa→Prop} {Q QR:AV→Zaa→Prop} {E:String→Zaa→Prop} {EE:String→VV→Zaa→Prop} {i:Nat} {y m:Int} {a b:List S}
theorem Zdx (hi:V[i]? = some (some (.int y))) (h:(y==m)=false) (q:wpSs g b K QR EE V H):wpS g (.ite (.cmp .Eq (.var i) (.lit (.int m))) a b) K QR EE V H:=by
 dsimp only [Zay,Zao,Zad,Zai];refine rl hi ?_;refine Eq.mpr (if_neg (by refine rl h ?_;exact Bool.false_ne_true)) q
theorem Zg6 (hi:V[i]? = some (some (.int y))) (h:(y==m)=true) (q:wpSs g a K QR EE V H):wpS g (.ite (.cmp .Eq (.var i) (.lit (.int m))) a b) K QR EE V H:=by
 dsimp only [Zay,Zao,Zad,Zai];refine rl hi ?_;refine Eq.mpr (if_pos h) q
variable {pa:Addr} {rs:List R10} {X:List Pc} {k:Str} {p1 p3 p4:Option AV} {pur:List Str}
theorem Zlk (hm:g.md=true) (M:Mir10 H pa rs X) (nd:(X.map (·.name)).Nodup) (pc:∀ x∈X,PcOK pur x) (hl:X.length≤1000) (q:∀ H',Ext H H'→Q (.int (sm X fun x=>sAt (held x) k)) H') :
  wpX g (.prim .sum [(.comp (.sub (.sub (.sub (.var 0) (.var 5)) (.lit (.int 0))) (.var 2)) 1 false (.var 0) (some (.cmp .In (.var 2) (.sub (.sub (.var 0) (.var 5)) (.lit (.int 3))))))]) [some (.ref pa),p1,some (.str k),p3,p4] Q E H:=by
 dsimp only [Zak,Zae,Zag,Zba,Zad];refine ⟨hm,?_⟩;show Zj3 _ _ (.ref pa) _;refine Zdi (Zkx M) (by refine rl (Zaf ..) (rl (length_map ..) ?_);exact le_trans hl (by decide)) (fD X k) (fun s hs nx hnx=>?_) fun z hz=>?_
 ·obtain ⟨s',hs',rfl⟩:=mem_map.mp hs;obtain ⟨x,hxm,rfl⟩:=mem_map.mp hs';obtain ⟨j,hj⟩:=mem_iff_getElem?.mp hxm;have hp:pAt X x.name=some (j,x):=Zci nd hj;obtain ⟨r,hr,row⟩:=M.row hj;have hf:fD X k (.str x.name)=if k∈x.inside then some (.int (vl x.parts k)) else none:=by unfold fD;dsimp only;exact rl hp rfl
  rw [hf] at hnx;refine Eq.mpr (if_neg Bool.false_ne_true) ?_;dsimp only [Zbg,Zao,Zad];show wpX _ (.sub (.sub (.var 0) (.var 5)) (.lit (.int (3:Nat)))) [some (.ref pa),p1,some (.str k),p3,p4,some (.str x.name)] _ _ _;refine Zek M rfl rfl hp hr rfl ?_;dsimp only [c_in];refine Zjd row.u ?_;by_cases hk:k∈x.inside
  ·rw [if_pos hk] at hnx;refine Eq.mpr (if_pos (by refine rl (decide_eq_true hk) ?_;rfl)) ?_;show wpX _ (.sub (.sub (.var 0) (.var 5)) (.lit (.int (0:Nat)))) [some (.ref pa),p1,some (.str k),p3,p4,some (.str x.name)] _ _ _;refine Zek M rfl rfl hp hr rfl ?_;refine Zux row.d ?_ hnx;exact (Zb9 rfl).mpr ((pc x hxm).ins k hk)
  ·rw [if_neg hk] at hnx;exact Eq.mpr (if_neg (by refine rl (decide_eq_false hk) ?_;decide)) hnx
 ·obtain ⟨ns,hn,hs⟩:=Zzv (k:=k) nd (Y:=X) fun _ h=>h;refine rl hn ?_;dsimp only [Zgn];refine ⟨hm,?_⟩;refine rl Zac ?_;refine ⟨ns,rfl,?_⟩;refine rl hs (rl (show (sm X fun x=>if k∈x.inside then vl x.parts k else 0)=sm X fun x=>sAt (held x) k from Zs1 fun x hx=>by rw [Zk0,Zpb (pc x hx).pk]) ?_);exact q _ (Ext.refl.new hz)
theorem Ztk (hm:g.md=true) (M:Mir10 H pa rs X) (nd:(X.map (·.name)).Nodup) (hl:X.length≤1000) (q:∀ H',Ext H H'→Q (.int (Zc6 X).length) H') :
  wpX g (.prim .len [(.comp (.var 5) 1 false (.var 0) (some (.cmp .Eq (.sub (.sub (.var 0) (.var 5)) (.lit (.int 4))) (.lit (.str (ofString "done"))))))]) [some (.ref pa),p1,some (.str k),p3,p4] Q E H:=by
 dsimp only [Zak,Zae,Zag,Zba,Zad];refine ⟨hm,?_⟩;show Zj3 _ _ (.ref pa) _;refine Zdi (Zkx M) (by refine rl (Zaf ..) (rl (length_map ..) ?_);exact le_trans hl (by decide)) (fB (fun x=>x.state==.dn) X) (fun s hs nx hnx=>?_) fun z hz=>?_
 ·obtain ⟨s',hs',rfl⟩:=mem_map.mp hs;obtain ⟨x,hxm,rfl⟩:=mem_map.mp hs';obtain ⟨j,hj⟩:=mem_iff_getElem?.mp hxm;have hp:pAt X x.name=some (j,x):=Zci nd hj;obtain ⟨r,hr,row⟩:=M.row hj;rw [Zxd hp] at hnx;refine Eq.mpr (if_neg Bool.false_ne_true) ?_;show wpX _ (.sub (.sub (.var 0) (.var 5)) (.lit (.int (4:Nat)))) [some (.ref pa),p1,some (.str k),p3,p4,some (.str x.name)] _ _ _;refine Zek M rfl rfl hp hr rfl ?_;dsimp only [Zai,Zcg,Zaj];refine rl Zuz ?_;cases hd:x.state==Sta.dn with
  | true=>rw [hd] at hnx;exact hnx
  | false=>rw [hd] at hnx;exact hnx
 ·refine rl (Zvm nd fun _ h=>h) ?_;have:(Zc6 X).length≤100000:=le_trans Zid (le_trans hl (by decide));refine Zjr Zac (by refine rl Zaf ?_;exact this) ?_;refine rl Zaf ?_;exact q _ (Ext.refl.new hz)
end
section
variable {c:Cx} (G:Gd c L10.P) {n:Nat} {Q:AV→Zaa→Prop} {E:String→Zaa→Prop} {H:Zaa} {pa:Addr} {rs:List R10} {X:List Pc} {k:Str} {j:Nat} {x:Pc} {pur:List Str}
include G
theorem Z1m (M:Mir10 H pa rs X) (hx:pAt X k=some (j,x)) (q:Q (.str x.state.str) H):CallOK c (n+1) true "_law_due_of" [.ref pa,.int 2,.str k] Q E H:=by
 refine G.call (F:=L10.f__law_due_of) rfl rfl ?_;refine w_st fun K nx=>Zg6 rfl rfl ?_;obtain ⟨r,hr,_⟩:=M.row (Zbi hx).1;show wpX _ (.sub (.sub (.var 0) (.var 2)) (.lit (.int (4:Nat)))) [some (.ref pa),some (.int 2),some (.str k),none,none] _ _ _;exact Zek M rfl rfl hx hr rfl q
theorem Z1n (M:Mir10 H pa rs X) (hx:pAt X k=some (j,x)) (hl:x.inside.length≤1000) (q:∀ z H',Ext H H'→H' z=some (.list (txs x.inside))→Q (.ref z) H'):CallOK c (n+1) true "_law_due_of" [.ref pa,.int 3,.str k] Q E H:=by
 refine G.call (F:=L10.f__law_due_of) rfl rfl ?_;refine w_st fun K nx=>Zdx rfl rfl (nx _ _ ?_);refine w_st fun K nx=>Zg6 rfl rfl ?_;obtain ⟨r,hr,row⟩:=M.row (Zbi hx).1;dsimp only [Zaw,Zbq,Zak,Zae,Zag];show wpX _ (.sub (.sub (.var 0) (.var 2)) (.lit (.int (3:Nat)))) [some (.ref pa),some (.int 3),some (.str k),none,none] _ _ _;refine Zek M rfl rfl hx hr rfl ?_;exact Zf9 row.u hl fun z hz=>q z _ (Ext.refl.new hz) Zac
theorem Z1l (q:∀ z H',Ext H H'→H' z=some (.list (txs [till,quay]))→Q (.ref z) H'):CallOK c (n+1) true "_law_due_of" [.ref pa,.int 4,.str k] Q E H:=by
 refine G.call (F:=L10.f__law_due_of) rfl rfl ?_;refine w_st fun K nx=>Zdx rfl rfl (nx _ _ ?_);refine w_st fun K nx=>Zdx rfl rfl (nx _ _ ?_);refine w_st fun K nx=>Zg6 rfl rfl ?_;intro z hz;exact q z _ (Ext.refl.new hz) Zac
theorem Z1p (M:Mir10 H pa rs X) (nd:(X.map (·.name)).Nodup) (pc:∀ x∈X,PcOK pur x) (hl:X.length≤1000) (q:∀ H',Ext H H'→Q (.int (sm X fun x=>sAt (held x) k)) H'):CallOK c (n+1) true "_law_due_of" [.ref pa,.int 1,.str k] Q E H:=by
 refine G.call (F:=L10.f__law_due_of) rfl rfl ?_;refine w_st fun K nx=>Zdx rfl rfl (nx _ _ ?_);refine w_st fun K nx=>Zdx rfl rfl (nx _ _ ?_);refine w_st fun K nx=>Zdx rfl rfl (nx _ _ ?_);refine w_st fun K nx=>?_;refine Zlk rfl M nd pc hl fun H1 E1=>⟨show 3<5 by decide,nx _ _ ?_⟩
 refine w_st fun K nx=>Zg6 rfl rfl ?_;exact q H1 E1
theorem Z1o (M:Mir10 H pa rs X) (nd:(X.map (·.name)).Nodup) (pc:∀ x∈X,PcOK pur x) (hl:X.length≤1000) (q:∀ H',Ext H H'→Q (.int (5000 - (sm X fun x=>sAt (held x) k)+(if k=till then -5 else 5)*((Zc6 X).length:Int))) H'):CallOK c (n+1) true "_law_due_of" [.ref pa,.int 0,.str k] Q E H:=by
 refine G.call (F:=L10.f__law_due_of) rfl rfl ?_;refine w_st fun K nx=>Zdx rfl rfl (nx _ _ ?_);refine w_st fun K nx=>Zdx rfl rfl (nx _ _ ?_);refine w_st fun K nx=>Zdx rfl rfl (nx _ _ ?_);refine w_st fun K nx=>?_;refine Zlk rfl M nd pc hl fun H1 E1=>⟨show 3<5 by decide,nx _ _ ?_⟩
 refine w_st fun K nx=>Zdx rfl rfl (nx _ _ ?_);refine w_st fun K nx=>?_;refine Ztk rfl (M.kp (.ext E1)) nd hl fun H2 E2=>⟨show 4<5 by decide,nx _ _ ?_⟩
 show wpSs _ _ _ _ _ [some (.ref pa),some (.int 0),some (.str k),some (.int _),some (.int ((Zc6 X).length:Int))] _;dsimp only [Zaw,Zbq,Zar,Zav,Zau,Zae,Zag,Zai,Zbl,Zad,Zak,Zao];show ∀ z,H2 z=none→_;intro z hz;have E3:=Ext.refl.new (o:=.list [.int 5,.int (-5)]) hz;have z3:up H2 z (.list [.int 5,.int (-5)]) z=some (.list [.int 5,.int (-5)]):=Zac;generalize up H2 z (.list [.int 5,.int (-5)])=H3 at E3 z3;show wcmp .Eq (.str k) (.str till) _ _;dsimp only [Zcg,Zp9];by_cases hk:k=till
 ·rw [if_pos hk] at q;refine rl (show (k==till)=true from beq_iff_eq.mpr hk) ?_;refine Ze6 (j:=1) z3 rfl (show 2≤1000 by decide) ?_;show wbin .Mult (.int (-5)) (.int _) _ _;refine rl Zdt ?_;exact ⟨IntMulOk.of_left (by decide +kernel),q H3 ((E1.trans E2).trans E3)⟩
 ·rw [if_neg hk] at q;refine rl (show (k==till)=false from beq_eq_false_iff_ne.mpr hk) ?_;refine Ze6 (j:=0) z3 rfl (show 2≤1000 by decide) ?_;show wbin .Mult (.int 5) (.int _) _ _;refine rl Zdt ?_;exact ⟨IntMulOk.of_left (by decide +kernel),q H3 ((E1.trans E2).trans E3)⟩
end
end Mine
end
section
namespace Mine
open L10
structure Bo (ks:List (Str×List (Str×Int))) (tot:Int) (B:Bk):Prop where
 I:Inv Zcl ks B tot
 fr:∀ s∈Zcl,vl B.free s=5000 - vl B.aside s+(if s=till then -5 else 5)*((Zc6 B.pacts).length:Int)
 cl:Clo B
 il:∀ x∈B.pacts,Zfc x=x.inside
inductive Vq (B:Bk) (k:Str):Int→AV→Prop
 | f:k∈Zcl→Vq B k 0 (.int (vl B.free k))
 | a:k∈Zcl→Vq B k 1 (.int (vl B.aside k))
 | s (j:Nat) (x:Pc):pAt B.pacts k=some (j,x)→Vq B k 2 (.str x.state.str)
inductive Lq (B:Bk) (k:Str):Int→List Str→Prop
 | i (j:Nat) (x:Pc):pAt B.pacts k=some (j,x)→Lq B k 3 x.inside
 | t:Lq B k 4 Zcl
def Ask (B:Bk) (y:Int) (k:Str):Prop:=(∃ v,Vq B k y v)∨∃ l,Lq B k y l
section
variable {g:Gx} {V:VV} {H:Zaa} {K:VV→Zaa→Prop} {Q QR:AV→Zaa→Prop} {E:String→Zaa→Prop} {EE:String→VV→Zaa→Prop} {i:Nat} {y m:Int} {a b:X} {sa sb:List S}
theorem Zln (hi:V[i]? = some (some (.int y))) (h:(y==m)=true) (q:wpX g a V Q E H):wpX g (.ite (.cmp .Eq (.var i) (.lit (.int m))) a b) V Q E H:=by
 dsimp only [Zbm,Zao,Zad,Zai];refine rl hi ?_;refine Eq.mpr (if_pos h) q
theorem Zim (hi:V[i]? = some (some (.int y))) (h:(y==m)=false) (q:wpX g b V Q E H):wpX g (.ite (.cmp .Eq (.var i) (.lit (.int m))) a b) V Q E H:=by
 dsimp only [Zbm,Zao,Zad,Zai];refine rl hi ?_;refine Eq.mpr (if_neg (by refine rl h ?_;exact Bool.false_ne_true)) q
theorem Zg5 (hi:V[i]? = some (some (.int y))) (h:y<m) (q:wpSs g sa K QR EE V H):wpS g (.ite (.cmp .Lt (.var i) (.lit (.int m))) sa sb) K QR EE V H:=by
 dsimp only [Zay,Zao,Zad,Zai];refine rl hi ?_;refine Eq.mpr (if_pos (decide_eq_true h)) q
theorem Zjw (hi:V[i]? = some (some (.int y))) (h:¬ y<m) (q:wpSs g sb K QR EE V H):wpS g (.ite (.cmp .Lt (.var i) (.lit (.int m))) sa sb) K QR EE V H:=by
 dsimp only [Zay,Zao,Zad,Zai];refine rl hi ?_;refine Eq.mpr (if_neg fun z=>h (of_decide_eq_true z)) q
theorem Zt6 (hi:V[i]? = some (some (.int y))) (h:m<y) (q:wpSs g sa K QR EE V H):wpS g (.ite (.cmp .Gt (.var i) (.lit (.int m))) sa sb) K QR EE V H:=by
 dsimp only [Zay,Zao,Zad,Zai];refine rl hi ?_;refine Eq.mpr (if_pos (decide_eq_true h)) q
theorem Zww (hi:V[i]? = some (some (.int y))) (h:¬ m<y) (q:wpSs g sb K QR EE V H):wpS g (.ite (.cmp .Gt (.var i) (.lit (.int m))) sa sb) K QR EE V H:=by
 dsimp only [Zay,Zao,Zad,Zai];refine rl hi ?_;refine Eq.mpr (if_neg fun z=>h (of_decide_eq_true z)) q
end
abbrev Vo (b pa:Addr) (y:Int) (k:Str) (ha:Addr) (w:Option AV):VV:=[some (.ref b),some (.ref pa),some (.int y),some (.str k),some (.ref ha),w]
section
variable {c:Cx} (G:Gd c L10.P) {n:Nat} {K:VV→Zaa→Prop} {Q QR:AV→Zaa→Prop} {E:String→Zaa→Prop} {EE:String→VV→Zaa→Prop} {H:Zaa} {b pa ha:Addr} {B:Bk} {v:AV} {y tot:Int} {rs:List R10} {ks:List (Str×List (Str×Int))} {k:Str} {N:Nat} {l:List Str} {us:List Addr}
include G
theorem Z1h (W:Vq B k y v) (hb:H b=some (.book B)) (O:Bo ks tot B) (kk:Kv (.str k)) {rest:List S} (q:wpSs ⟨c,n+3,true⟩ rest K QR EE (Vo b pa y k ha (some v)) H):wpSs ⟨c,n+3,true⟩ (L10.f__law_one_same.body.take 2++rest) K QR EE (Vo b pa y k ha none) H:=by
 have hM:c.P.meths=BK.meths:=by refine rl G.hP ?_;rfl
 cases W with
 | f h =>
  refine w_st fun K nx=>?_;dsimp only [Zam];refine Zim rfl rfl ?_;refine ⟨show 5<6 by decide,nx _ _ ?_⟩;refine w_st fun K nx=>Zg5 rfl (by decide) ?_;dsimp only [Zaw,Zam];refine Zln rfl rfl ?_;refine Zcu hM (by decide) (by decide) hb rfl ?_;refine Zue (n:=n) G U10.a hb kk.kn ?_;refine Eq.mpr (if_pos (by refine rl (Zjn O.I Zdc) ?_;exact (Zb9 O.I.fk).mpr h)) ⟨show 5<6 by decide,nx _ _ q⟩
 | a h =>
  refine w_st fun K nx=>?_;dsimp only [Zam];refine Zim rfl rfl ?_;refine ⟨show 5<6 by decide,nx _ _ ?_⟩;refine w_st fun K nx=>Zg5 rfl (by decide) ?_;dsimp only [Zaw,Zam];refine Zim rfl rfl ?_;refine Zcu hM (by decide) (by decide) hb rfl ?_;refine Zsc (n:=n) G U10.a rfl hb kk.kn O.I.ok.both ?_;refine Eq.mpr (if_pos (by refine rl (Zjn O.I Zdc) ?_;exact (Zb9 O.I.fk).mpr h)) ⟨show 5<6 by decide,nx _ _ q⟩
 | s j x h =>
  refine w_st fun K nx=>?_;dsimp only [Zam];refine Zim rfl rfl ?_;refine ⟨show 5<6 by decide,nx _ _ ?_⟩;refine w_st fun K nx=>Zjw rfl (by decide) ?_;refine Zg5 rfl (by decide) ?_;dsimp only [Zaw,Zam];refine Zln rfl rfl ?_;refine Zcu hM (by decide) (by decide) hb rfl ?_;refine Zv2 (n:=n) G U10 rfl hb kk.kn ?_;refine rl (Zhu O.I) (rl h ?_);exact ⟨show 5<6 by decide,nx _ _ q⟩
theorem Z1i (L:Lq B k y l) (hb:H b=some (.book B)) (O:Bo ks tot B) (kk:Kv (.str k)) {rest:List S} (q:∀ f H',H f=none→Ext H H'→H' f=some (.list (txs l))→wpSs ⟨c,n+3,true⟩ rest K QR EE (Vo b pa y k ha (some (.ref f))) H'):wpSs ⟨c,n+3,true⟩ (L10.f__law_one_same.body.take 2++rest) K QR EE (Vo b pa y k ha none) H:=by
 have hM:c.P.meths=BK.meths:=by refine rl G.hP ?_;rfl
 cases L with
 | i j x h =>
  refine w_st fun K nx=>?_;dsimp only [Zam];refine Zim rfl rfl ?_;refine ⟨show 5<6 by decide,nx _ _ ?_⟩;refine w_st fun K nx=>Zjw rfl (by decide) ?_;refine Zg5 rfl (by decide) ?_;dsimp only [Zaw,Zam];refine Zim rfl rfl ?_;refine Zcu hM (by decide) (by decide) hb rfl ?_;refine Zt7 (n:=n) G U10 rfl hb O.I.ok kk.kn ?_;refine rl (Zhu O.I) (rl h ?_);intro z hz;refine rl (O.il x (mem_of_getElem? (Zbi h).1)) ?_;exact ⟨show 5<6 by decide,nx _ _ (q z _ hz (Ext.refl.new hz) Zac)⟩
 | t =>
  refine w_st fun K nx=>?_;dsimp only [Zam];refine Zln rfl rfl ?_;refine Zcu hM (by decide) (by decide) hb rfl ?_;refine Zta (n:=n+2) G U10.a hb O.I.ok.sz fun z hz=>⟨show 5<6 by decide,nx _ _ ?_⟩
  refine w_st fun K nx=>Zjw rfl (by decide) ?_;refine Zjw rfl (by decide) ?_;refine nx _ _ ?_;refine rl (show (B.free.map fun e=>AV.str e.1)=txs Zcl from by unfold txs;rw [← O.I.fk,map_map];rfl) ?_;exact q z _ hz (Ext.refl.new hz) Zac
theorem dueV (W:Vq B k y v) (M:Mir10 H pa rs B.pacts) (O:Bo ks tot B) (q:∀ H',Ext H H'→Q v H'):CallOK c (n+1) true "_law_due_of" [.ref pa,.int y,.str k] Q E H:=by
 have hl:B.pacts.length≤1000:=le_trans O.I.len (by decide);cases W with
 | f h =>
  rw [O.fr k h,O.I.ah k] at q;exact Z1o G M O.I.nm O.I.pc hl q
 | a h =>
  rw [O.I.ah k] at q;exact Z1p G M O.I.nm O.I.pc hl q
 | s j x h=>exact Z1m G M h (q H .refl)
theorem dueL (L:Lq B k y l) (M:Mir10 H pa rs B.pacts) (O:Bo ks tot B) (q:∀ z H',Ext H H'→H' z=some (.list (txs l))→Q (.ref z) H'):CallOK c (n+1) true "_law_due_of" [.ref pa,.int y,.str k] Q E H:=by
 cases L with
 | i j x h=>exact Z1n G M h (le_trans (O.I.ok.inl j x (Zbi h).1).1 (by decide)) q
 | t=>exact Z1l G q
omit G in
theorem Vq.kv (W:Vq B k y v):∀ {ne:Bool} {Q:AV→Zaa→Prop} {H:Zaa},Q (.bool (nt ne true)) H→weq ne v v Q H:=by
 intro ne Q H q;refine Z0g ?_ q;cases W with
 | f=>exact .int
 | a=>exact .int
 | s j x h=>exact .str (by cases x.state<;>decide)
theorem Zl0 (hb:H b=some (.book B)) (M:Mir10 H pa rs B.pacts) (O:Bo ks tot B) (Hh:Hl H ha us N) (hus:∀ u∈us,H u≠none) (hN:N≤9000) (A:Ask B y k) (kk:Kv (.str k)) (q:∀ H',Kb ha H H'→Hl H' ha us (N+1)→Q (.bool true) H') :
  CallOK c (n+4) true "_law_one_same" [.ref b,.ref pa,.int y,.str k,.ref ha] Q E H:=by
 refine G.call (F:=L10.f__law_one_same) rfl rfl ?_;show wpSs _ (L10.f__law_one_same.body.take 2++L10.f__law_one_same.body.drop 2) _ _ _ (Vo b pa y k ha none) _;rcases A with ⟨v,W⟩ | ⟨l,L⟩
 ·have Hh1:Hl H ha us (N+1):=Hh.le (le_succ N);refine Z1h G W hb O kk ?_;refine w_st fun K nx=>?_;dsimp only [Zay,x_ao,Zat,Za1,Zao,Zan,Zae,Zag,Zad];show CallOK _ _ _ "_law_due_of" [.ref pa,.int y,.str k] _ _ _;refine dueV (n:=n+2) G W M O fun H1 E1=>?_;dsimp only [Zuo];refine W.kv ?_;dsimp only [Zaj];refine Eq.mpr (if_pos rfl) ?_;dsimp only [x_ao,Zat,Za1,Za6,Zan,Zae,Zag,Zao,Zad,Zai];have fin:∀ p,¬ 2<y→wpSs ⟨c,n+3,true⟩ (L10.f__law_one_same.body.drop 3) (fun _ H=>Q .none H) Q (fun cl _ H=>E cl H) (Vo b pa y k ha p) H1:=fun p hy=>by
   refine w_st fun K nx=>Zww rfl hy (nx _ _ ?_);exact q H1 (.ext E1) (Hh1.kp (.ext E1))
  have wh:∀ {v:Int},y<2→wpS ⟨c,n+3,true⟩ (.ite (.ao true [(.cmp .Lt (.var 2) (.lit (.int 2))),(.not (.call "_law_whole" [(.var 5)]))]) [.ret (.lit (.bool false))] []) K Q (fun cl _ H=>E cl H) (Vo b pa y k ha (some (.int v))) H1:=fun {v} hy=>by
   dsimp only [Zay,x_ao,Zat,Za1,Za6,Zan,Zae,Zag,Zao,Zad,Zai];show wcmp .Lt (.int y) (.int 2) _ _;dsimp only [c_lt,Zaj];refine rl (decide_eq_true hy) ?_;refine Eq.mpr (if_pos rfl) ?_;refine Zmu (n:=n+2) G rfl ?_;exact nx _ _ (fin _ (by lia))
  cases W with
  | f h=>exact wh (by decide)
  | a h=>exact wh (by decide)
  | s j x h=>exact nx _ _ (fin _ (by decide))
 ·refine Z1i G L hb O kk fun f H1 hf e1 f1=>?_;have hfu:f ∉ us:=fun z=>hus f z hf;refine w_st fun K nx=>?_;refine dueL (n:=n+2) G L (M.kp (.ext e1)) O fun z H2 e2 hz2=>?_;dsimp only [Zuo];refine Zhb (e2 _ _ f1) hz2 ?_;refine rl (decide_eq_true rfl) ?_;dsimp only [Zaj];refine Eq.mpr (if_pos rfl) ?_;have hy:2<y:=by cases L<;>decide
  have hy2:¬ y<2:=by lia
  dsimp only [x_ao,Zat,Za1,Zao,Zad,Zai];show wcmp .Lt (.int y) (.int 2) _ _;dsimp only [c_lt,Zaj];refine rl (decide_eq_false hy2) ?_;refine Eq.mpr (if_neg (by decide)) ?_;refine nx _ _ ?_;have hA:Hl H ha (f::us) N:=Hh.chg fun u hu=>by
   rcases mem_cons.mp hu with rfl | hu
   ·exact .inr hf
   ·exact .inl hu
  have hll:l.length≤900:=by
   cases L with
   | i j x h=>exact le_trans (O.I.ok.inl j x (Zbi h).1).1 (by decide)
   | t=>decide
  have e3:=e1.trans e2;refine w_st fun K nx=>Zt6 rfl hy ?_;refine Zno (i:=5) (m:=4) rfl rfl (hA.kp (.ext e3)) hfu (e2 _ _ f1) hll hN (fun u hu h=>hus u hu (e3.none h)) fun H4 k4 h4=>?_;refine nx _ _ ?_;exact q _ (fun a x hx h=>k4 a x hx (Zh0 h hf) (e3 _ _ h)) h4
end
end Mine
end
section
namespace Mine
open L10
theorem Zvz {n a b:Nat} (h:n≤95) (ha:a≤n+2) (hb:b≤n+2):a+b≤194:=by lia
theorem Zvy {n a b:Nat} (h:n≤194) (ha:a≤n+2) (hb:b≤n+2):a+b≤392:=by lia
theorem Mir10.kb {H H':Zaa} {pa ha:Addr} {rs:List R10} {X:List Pc} {l:List AV} (M:Mir10 H pa rs X) (hn:ha ∉ lsOf rs) (hl:H ha=some (.list l)) (e:Kb ha H H'):Mir10 H' pa rs X:=M.kx fun a o hL h=>e a o (fun q=>hn (q▸hL (by rw [q,hl] at h;obtain rfl:=osi h;rfl))) h
def GoodL (B:Bk) (H:Zaa) (xs:List AV):Prop:=∀ v∈xs,∃ t y s,v = .ref t∧H t=some (.tuple [.int y,.str s])∧Ask B y s∧Kv (.str s)
section
variable {B:Bk} {H H':Zaa} {xs xs':List AV}
theorem GoodL.ext (h:GoodL B H xs) (e:Ext H H'):GoodL B H' xs:=fun v hv=>let ⟨t,y,s,h1,h2,h3⟩:=h v hv;⟨t,y,s,h1,e _ _ h2,h3⟩
theorem GoodL.app (h:GoodL B H xs) (h':GoodL B H xs'):GoodL B H (xs++xs'):=fun v hv=>(mem_append.mp hv).elim (h v) (h' v)
theorem GoodL.sub (h:GoodL B H xs) (k:∀ v∈xs',v∈xs):GoodL B H xs':=fun v hv=>h v (k v hv)
theorem GoodL.asks {ts:List Addr} {ys:List Int} {ss:List Str} (h:Asks H ts ys ss) (k:∀ y∈ys,∀ s∈ss,Ask B y s∧Kv (.str s)):GoodL B H (ts.map .ref):=fun v hv=>by
 obtain ⟨t,ht,rfl⟩:=mem_map.mp hv;obtain ⟨y,hy,s,hs,e⟩:=h t ht;exact ⟨t,y,s,rfl,e,k y hy s hs⟩
end
section
variable {c:Cx} (G:Gd c L10.P) {n:Nat} {Q:AV→Zaa→Prop} {E:String→Zaa→Prop} {H:Zaa} {b pa ha:Addr} {B:Bk} {tn tot:Int} {rs:List R10} {us:List Addr} {ks:List (Str×List (Str×Int))} {N:Nat} {z:Addr} {xs:List AV} {v2 v5:Option AV}
include G
theorem Zxn (hb:H b=some (.book B)) (M:Mir10 H pa rs B.pacts) (O:Bo ks tot B) (Hh:Hl H ha us N) (hsu:∀ u∈lsOf rs,u∈us) (hus:∀ u∈us,H u≠none) (hz:H z=some (.list xs)) (hza:z≠ha) (hg:GoodL B H xs) (hl:xs.length≤394) (hN:N+394≤9000)
  (q:∀ H',Kb ha H H'→Hl H' ha us (N+394)→Q (.bool true) H') :
  wpX ⟨c,n+4,true⟩ (.prim .all [(.comp (.call "_law_one_same" [(.var 0),(.var 1),(.var 6),(.var 7),(.var 3)]) 2 true (.var 4) none)]) [some (.ref b),some (.ref pa),v2,some (.ref ha),some (.ref z),v5] Q E H:=by
 obtain ⟨_,hl0⟩:=Hh.at;have tl:∀ {t l},H t=some (.tuple l)→t≠ha:=fun h e=>by rw [e,hl0] at h;cases h
 have nb:b≠ha:=fun e=>by rw [e,hl0] at hb;cases hb
 dsimp only [Zak,Zae,Zag,Zba,Zad];refine ⟨rfl,xs,by simp only [Zal,hz],le_trans hl (by decide),Sa H ha us N,⟨.refl,Hh,rfl⟩,?_⟩;rintro k acc H' ⟨hK,hh,rfl⟩;refine ⟨(hK _ _ hza hz).trans hz.symm,fun hk a ha'=>?_,fun x hx=>?_⟩
 ·have Ea:=Ext.refl.new (o:=.list ((List.replicate k true).map .bool)) ha';dsimp only [Ziv];refine ⟨rfl,?_⟩;refine rl Zac ?_;refine ⟨List.replicate k true,rfl,?_⟩;refine rl Zur ?_;exact q _ (hK.trans (.ext Ea)) ((hh.le (Nat.add_le_add_left (by refine rl hk ?_;exact hl) _)).kp (.ext Ea))
 ·obtain ⟨t,y,s,rfl,ht,hA,hk⟩:=hg x (mem_of_getElem? hx);have hkl:k<xs.length:=(gsi hx).1;show Zb7 2 (.ref t) H' _;unfold Zb7;dsimp only;refine rl (hK _ _ (tl ht) ht) ?_;refine ⟨rfl,?_⟩
  (dsimp only [Zbt];refine Eq.mpr (if_pos rfl) ?_)
  refine Zl0 (n:=n) G (hK _ _ nb hb) (M.kb (fun z=>Hh.n (hsu _ z)) hl0 hK) O hh (fun u hu h=>by cases e:H u with | none=>exact hus u hu e | some o=>rw [hK _ _ (fun z=>Hh.n (z▸hu)) e] at h;contradiction) (by lia) hA hk fun H2 k2 h2=>⟨hK.trans k2,h2,?_⟩
  refine rl List.replicate_succ' (rl map_append ?_);rfl
theorem Zpq (hb:H b=some (.book B)) (M:Mir10 H pa rs B.pacts) (O:Bo ks tot B) (Hh:Hl H ha us N) (hsu:∀ u∈lsOf rs,u∈us) (hus:∀ u∈us,H u≠none) (hN:N+394≤9000) (hp:B.pacts.length≤45)
  (q:∀ H',Kb ha H H'→Hl H' ha us (N+394)→Q (.bool true) H'):CallOK c (n+5) true "_law_same" [.ref b,.ref pa,.int tn,.ref ha] Q E H:=by
 refine G.call (F:=L10.f__law_same) rfl rfl ?_;show wpSs _ _ _ _ _ [some (.ref b),some (.ref pa),some (.int tn),some (.ref ha),none,none] _;obtain ⟨_,hl0⟩:=Hh.at;refine w_st fun K nx=>?_;dsimp only [Zay,Zao,Zai,Zar,Zad,getElem?_cons_succ,v_0,Zbx,ne_eq,c_eq,Zaj,beq_iff_eq];refine ⟨by decide,?_⟩;split
 ·exact q H .refl (Hh.le (le_add_right _ _))
 refine nx _ _ ?_;refine w_st fun K nx=>?_;dsimp only [Zam,Zar,Zan,Zae,Zau,Zai,Zag];intro w1 hw1 d1 hd1;have E1:=(Ext.refl.new (o:=.list [.int 0,.int 1]) hw1).new (o:=.list [.str (ofString "till"),.str (ofString "quay")]) hd1;have hw1':up (up H w1 (.list [.int 0,.int 1])) d1 (.list [.str (ofString "till"),.str (ofString "quay")]) w1=some (.list (([0,1]:List Int).map .int)):=Zdl Zac hd1;have hd1':up (up H w1 (.list [.int 0,.int 1])) d1 (.list [.str (ofString "till"),.str (ofString "quay")]) d1=some (.list (txs Zcl)):=Zac;generalize up (up H w1 (.list [.int 0,.int 1])) d1 (.list [.str (ofString "till"),.str (ofString "quay")])=H1 at E1 hw1' hd1';have pk:∀ {H'},Ext H H'→Zal H' (.ref pa)=some (txs (B.pacts.map (·.name))):=fun e=>Zkx (M.kp (.ext e));refine Zi8 (n:=n+3) (ss:=Zcl) G rfl hw1' (fun H' e=>by unfold Zal;dsimp only;exact rl (e _ _ hd1') rfl) (show 2≤100 by decide) (by decide) fun H2 z2 ts2 E2 hz2 A2 l2=>?_;intro t5 ht5 z5 hz5;have E5:=(Ext.refl.new (o:=.tuple [.int 4,.str (ofString "")]) ht5).new (o:=.list [.ref t5]) hz5;have t5':up (up H2 t5 (.tuple [.int 4,.str (ofString "")])) z5 (.list [.ref t5]) t5=some (.tuple [.int 4,.str (ofString "")]):=Zdl Zac hz5;have z5':up (up H2 t5 (.tuple [.int 4,.str (ofString "")])) z5 (.list [.ref t5]) z5=some (.list [.ref t5]):=Zac;generalize up (up H2 t5 (.tuple [.int 4,.str (ofString "")])) z5 (.list [.ref t5])=H5 at E5 t5' z5';have l2:ts2.length=4:=l2;refine Zes (E5 _ _ hz2) z5' (by refine rl (length_map ..) (rl (l2 ..) ?_);show 4+1≤1000;decide) fun z6 hz6=>?_;have E6:=Ext.refl.new (o:=.list (ts2.map .ref++[.ref t5])) hz6;have z6':up H5 z6 (.list (ts2.map .ref++[.ref t5])) z6=some (.list (ts2.map .ref++[.ref t5])):=Zac;generalize up H5 z6 (.list (ts2.map .ref++[.ref t5]))=H6 at E6 z6';intro w2 hw2;have E7:=Ext.refl.new (o:=.list [.int 2,.int 3]) hw2;have hw2':up H6 w2 (.list [.int 2,.int 3]) w2=some (.list (([2,3]:List Int).map .int)):=Zac;generalize up H6 w2 (.list [.int 2,.int 3])=H7 at E7 hw2';have E17:=(((E1.trans E2).trans E5).trans E6).trans E7;refine Zi8 (n:=n+3) G rfl hw2' (fun H' e=>pk (E17.trans e)) (by refine rl (length_map ..) ?_;lia) (by decide) fun H8 z8 ts8 E8 hz8 A8 l8=>?_;rw [length_map] at l8;have l8':ts8.length≤90:=by refine rl l8 ?_;show 2*_≤90;lia
 refine Zes ((E7.trans E8) _ _ z6') hz8 (by refine rl (length_append ..) (rl (length_map ..) (rl (length_map ..) (rl (l2 ..) ?_)));show 4+1+_≤1000;lia) fun z9 hz9=>⟨show 4<6 by decide,nx _ _ ?_⟩
 have E9:=Ext.refl.new (o:=.list (ts2.map .ref++[.ref t5]++ts8.map .ref)) hz9;have g9:GoodL B (up H8 z9 (.list (ts2.map .ref++[.ref t5]++ts8.map .ref))) (ts2.map .ref++[.ref t5]++ts8.map .ref):=by
  refine GoodL.app (GoodL.app ?_ ?_) ?_
  ·refine (GoodL.asks A2 fun y hy s hsm=>?_).ext (((((E5.trans E6).trans E7).trans E8)).trans E9);refine ⟨?_,Kv.nm (Zdc s hsm)⟩;rcases mem_cons.mp hy with rfl | hy
   ·exact .inl ⟨_,.f hsm⟩
   ·refine rl (mem_singleton.mp hy) ?_;exact .inl ⟨_,.a hsm⟩
  ·intro v hv;refine rl (mem_singleton.mp hv) ?_;exact ⟨t5,4,_,rfl,E9 _ _ (E8 _ _ (E7 _ _ (E6 _ _ t5'))),.inr ⟨_,.t⟩,.str (by decide)⟩
  ·refine (GoodL.asks A8 fun y hy s hs=>?_).ext E9;obtain ⟨⟨j,x⟩,hx⟩:=Zga hs;have hxn:=Zbi hx;refine ⟨?_,Kv.nm (by refine rl hxn.2.symm ?_;exact (O.I.at hxn.1).nm)⟩;rcases mem_cons.mp hy with rfl | hy
   ·exact .inl ⟨_,.s j x hx⟩
   ·refine rl (mem_singleton.mp hy) ?_;exact .inr ⟨_,.i j x hx⟩
 have z9':up H8 z9 (.list (ts2.map .ref++[.ref t5]++ts8.map .ref)) z9=some (.list (ts2.map .ref++[.ref t5]++ts8.map .ref)):=Zac;have lx:0<(ts2.map AV.ref++[AV.ref t5]++ts8.map AV.ref).length∧(ts2.map AV.ref++[AV.ref t5]++ts8.map AV.ref).length≤95:=by
  refine rl (length_append ..) (rl (length_append ..) (rl (length_map ..) (rl (length_map ..) ?_)));show 0<_+1+_∧_+1+_≤95;lia
 have E19:=(E17.trans E8).trans E9;generalize up H8 z9 (.list (ts2.map .ref++[.ref t5]++ts8.map .ref))=H9 at z9' g9 E19;generalize ts2.map AV.ref++[AV.ref t5]++ts8.map AV.ref=xs at z9' g9 lx;clear hw1' hd1' hz2 A2 l2 ht5 hz5 t5' z5' hz6 z6' hw2' hz8 A8 l8 hz9 E9 E8 E7 E6 E5 E2 E1 E17 pk hw1 hd1 hw2;have j0:=Za8 (x:=tn.fdiv 5) (m:=2) (by decide);have j1:=Zbj (x:=tn.fdiv 5) (m:=2) (by decide);have ne:0<(Zb1 xs (some ((tn.fdiv 5).fmod 2)) none (some 2)++Zb1 xs (some (1 - (tn.fdiv 5).fmod 2)) none (some 2)).length:=by
  refine rl length_append ?_;rcases two j0 j1 with e | e
  ·refine rl e ?_;exact Nat.lt_of_lt_of_le (Zm6 lx.1) (le_add_right _ _)
  ·refine rl e ?_;exact Nat.lt_of_lt_of_le (Zm6 lx.1) (Nat.le_add_left _ _)
 have la:=Zfk (xs:=xs) (l:=some ((tn.fdiv 5).fmod 2)) (u:=none) (t:=some 2) (.inr (.inl rfl));have lb:=Zfk (xs:=xs) (l:=some (1 - (tn.fdiv 5).fmod 2)) (u:=none) (t:=some 2) (.inr (.inl rfl));have gg:GoodL B H9 (Zb1 xs (some ((tn.fdiv 5).fmod 2)) none (some 2)++Zb1 xs (some (1 - (tn.fdiv 5).fmod 2)) none (some 2)):=GoodL.app (g9.sub fun _=>Zfj) (g9.sub fun _=>Zfj);refine w_st fun K nx=>?_;dsimp only [Zam,Zar,set_cons_succ,set_cons_zero,tv,length_cons,length_nil,Nat.reduceAdd,Zap,Zbk,Zai,Zbn,Zad,getElem?_cons_succ,v_0,Zbv,ne_eq,Zbx,Zdh];refine ⟨by decide,by decide,?_⟩;refine Zc2 (l:=some ((tn.fdiv 5).fmod 2)) (u:=none) (t:=some 2) z9' rfl rfl rfl (by decide) (by lia) fun za Ha Ea _ ha1=>?_;refine ⟨by decide,by decide,?_⟩;refine Zc2 (l:=some (1 - (tn.fdiv 5).fmod 2)) (u:=none) (t:=some 2) (Ea _ _ z9') rfl rfl rfl (by decide) (by lia) fun zb Hb Eb _ hb1=>?_;have lc0:=Zvz lx.2 la lb;generalize Zb1 xs (some ((tn.fdiv 5).fmod 2)) none (some 2)=s0 at *;generalize Zb1 xs (some (1 - (tn.fdiv 5).fmod 2)) none (some 2)=s1 at *;refine Zes (Eb _ _ ha1) hb1 (le_trans lc0 (by decide)) fun zc hzc=>⟨by decide,nx _ _ ?_⟩
 have Ec:=Ext.refl.new (o:=.list (s0++s1)) hzc;have zc':up Hb zc (.list (s0++s1)) zc=some (.list (s0++s1)):=Zac;have gc:=gg.ext ((Ea.trans Eb).trans Ec);have E1c:=E19.trans ((Ea.trans Eb).trans Ec);have lc:(s0++s1).length≤194:=by refine rl length_append ?_;exact lc0
 generalize up Hb zc (.list (s0++s1))=Hc at zc' gc E1c;generalize s0++s1=ys at zc' gc lc ne;clear la lb lc0 gg hb1 ha1 Ea Eb Ec hzc g9 z9' lx E19;have y0:(0:Int)<(ys.length:Nat):=Int.natCast_pos.mpr ne;refine w_st fun K nx=>?_;dsimp only [Zam,tv,length_cons,length_nil,Nat.reduceAdd,set_cons_succ,set_cons_zero,Zar,Zak,Zae,Zag,Zad,getElem?_cons_succ,v_0,Zai,Zbv,ne_eq];refine ⟨by decide,Zjr zc' (le_trans lc (by decide)) ⟨Int.ne_of_gt y0,by decide,nx _ _ ?_⟩⟩;generalize (tn.fdiv 10).fmod (ys.length:Nat)=m;refine w_st fun K nx=>?_;dsimp only [Zam,Zap,Zar,tv,length_cons,length_nil,Nat.reduceAdd,set_cons_succ,set_cons_zero,Zbk,Zai,Zad,getElem?_cons_succ,v_0,Zbv,ne_eq,Zbx,Zdt,Zdh,Zbn];refine Zc2 (l:=some m) (u:=none) (t:=none) zc' rfl rfl rfl (fun e=>by contradiction) (le_trans lc (by decide)) fun zd Hd Ed _ hd1=>?_;refine Zc2 (l:=none) (u:=some m) (t:=none) (Ed _ _ zc') rfl rfl rfl (fun e=>by contradiction) (le_trans lc (by decide)) fun ze He Ee _ he1=>?_;have lr:=Zvy lc (Zfk (xs:=ys) (l:=some m) (u:=none) (t:=none) (.inl rfl)) (Zfk (xs:=ys) (l:=none) (u:=some m) (t:=none) (.inl rfl));refine Zes (Ee _ _ hd1) he1 (le_trans lr (by decide)) fun zf hzf=>?_;obtain ⟨w1,w2⟩:=Zxu (tn.fdiv 1000);have Ef:=Ext.refl.new (o:=.list (Zb1 ys (some m) none none++Zb1 ys none (some m) none)) hzf;have zf':up He zf (.list (Zb1 ys (some m) none none++Zb1 ys none (some m) none)) zf=some (.list (Zb1 ys (some m) none none++Zb1 ys none (some m) none)):=Zac;have gf:GoodL B (up He zf (.list (Zb1 ys (some m) none none++Zb1 ys none (some m) none))) (Zb1 ys (some m) none none++Zb1 ys none (some m) none):=(GoodL.app (gc.sub fun _=>Zfj) (gc.sub fun _=>Zfj)).ext ((Ed.trans Ee).trans Ef);have E1f:=E1c.trans ((Ed.trans Ee).trans Ef);have lf:(Zb1 ys (some m) none none++Zb1 ys none (some m) none).length≤392:=by refine rl length_append ?_;exact lr
 generalize up He zf (.list (Zb1 ys (some m) none none++Zb1 ys none (some m) none))=Hf at zf' gf E1f;generalize Zb1 ys (some m) none none++Zb1 ys none (some m) none=ws at zf' gf lf;refine ⟨by decide,by decide,w1,?_⟩;refine Zc2 (l:=none) (u:=none) (t:=some (1 - 2*(tn.fdiv 1000).fmod 2)) zf' rfl rfl rfl (fun e=>by have:=osi e;lia) (le_trans lf (by decide)) fun zg Hg Eg hzg hg1=>⟨by decide,nx _ _ ?_⟩
 have lg:=le_trans (Zfk (xs:=ws) (l:=none) (u:=none) (t:=some (1 - 2*(tn.fdiv 1000).fmod 2)) (w2.imp_right .inr)) (Nat.add_le_add_right lf 2);have EH:=E1f.trans Eg;dsimp only [Zaw,Zbq];exact Zxn G (EH _ _ hb) (M.kp (.ext EH)) O (Hh.kp (.ext EH)) hsu (fun u hu h=>hus u hu (EH.none h)) hg1 (Zh0 (E1f _ _ hl0) hzg).symm ((gf.sub fun _=>Zfj).ext Eg) lg hN fun H' kk hh=>q H' ((Kb.ext EH).trans kk) hh
end
end Mine
end
section
namespace Mine
open L10
theorem Zh7 {ins:List Str} {l:List (Str×Int)} {B:Bk}:(Zcr ins l B).day=B.day:=by
 induction l generalizing B with
 | nil=>rfl
 | cons e l ih=>refine ih.trans ?_;split<;>rfl
theorem drag_day {n:Nat} {B:Bk} {l:List Str}:(Za9 n B l).1.day=B.day:=by
 induction n generalizing B l with
 | zero=>rfl
 | succ n ih =>
  cases h:Zcd B with
  | none=>exact rl (Zc5 h) rfl
  | some e=>refine rl (Zc4 h) ?_;exact ih.trans Zh7
theorem Zrq {ps:List Pc} {j:Nat} {x y:Pc} (h:ps[j]? = some x) (hx:(x.state==.dn)=false) (hy:(y.state==.dn)=false):(Zc6 (ps.set j y)).length=(Zc6 ps).length:=by
 unfold Zc6;refine rl (length_map ..) (rl (length_map ..) ?_)
 induction ps generalizing j with
 | nil=>rfl
 | cons p ps ih =>
  cases j with
  | zero =>
   obtain rfl:=osi h;refine rl (set_cons_zero ..) (rl (filter_cons ..) (rl (filter_cons ..) (rl (hx ..) (rl (hy ..) ?_))));rfl
  | succ j =>
   refine rl (set_cons_succ ..) (rl (filter_cons ..) (rl (filter_cons ..) ?_));have:=ih (j:=j) h;cases p.state==Sta.dn with
   | true=>exact congrArg (· + 1) this
   | false=>exact this
structure P10 (ks:List (Str×List (Str×Int))) (tot:Int) (B:Bk):Prop where
 I:Inv Zcl ks B tot
 fr:∀ s∈Zcl,vl B.free s=5000 - vl B.aside s+(if s=till then -5 else 5)*((Zc6 B.pacts).length:Int)
 il:∀ x∈B.pacts,Zfc x=x.inside
section
variable {ks:List (Str×List (Str×Int))} {tot:Int} {B B':Bk} {j:Nat} {x:Pc} {w:AV} {r:Bk×List Str}
theorem Zvd (h:Zcm B w=none):offQ B w = .error "NoPact":=by unfold offQ;exact rl h rfl
theorem Zve (h:Zcm B w=some (j,x)) (ho:x.state≠.opn):offQ B w = .error "NotOpen":=by unfold offQ;refine rl h ?_;exact if_neg ho
theorem Zjt (h:Zcm B w=some (j,x)) (ho:x.state = .opn):offQ B w = .ok (Za9 B.pacts.length (Zdf B j x) [x.name]):=by unfold offQ;refine rl h ?_;exact if_pos ho
theorem Bo.p (O:Bo ks tot B):P10 ks tot B:=⟨O.I,O.fr,O.il⟩
theorem P10.step (h:P10 ks tot B) (s:Zmr B B' j x .fln):P10 ks tot B':=by
 refine ⟨h.I.step s,fun k hk=>?_,fun y hy=>?_⟩
 ·have f:=s.f.v k;have a:=s.a.v k;have hd:(Zc6 B'.pacts).length=(Zc6 B.pacts).length:=by
   refine rl s.ps ?_;exact Zrq s.at_ (by refine rl s.op ?_;rfl) rfl
  have e1:back x .fln=held x:=if_neg (by decide);have e2:gone x .fln=held x:=if_neg (by decide);rw [e1] at f;rw [e2] at a;refine rl hd (rl f (rl a (rl (h.fr k hk) ?_)));lia
 ·rw [s.ps] at hy;rcases List.mem_or_eq_of_mem_set hy with hy | rfl
  ·exact h.il y hy
  ·unfold Zfc;refine rl (List.filter_eq_nil_iff.mpr fun e _ z=>by have:=of_decide_eq_true z;contradiction) ?_;rfl
theorem P10.off (h:P10 ks tot B) (e:offQ B w = .ok r):P10 ks tot r.1:=Znb (P:=P10 ks tot) (fun h=>h.I.ok) (fun h s=>h.step s) h e
theorem P10.pass (h:P10 ks tot B) (e:Zhp B w = .ok r):P10 ks tot r.1:=Zki (P:=P10 ks tot) (fun h=>h.I.ok) (fun h s=>h.step s) (fun d h=>⟨h.I.day d,h.fr,h.il⟩) h e
theorem fal0:Fal B B []:=⟨(map_id _).symm,fun k hk=>by contradiction⟩
theorem P10.bo {L L2:List Str} (h:P10 ks tot B') (O:Bo ks tot B) (F:Fal B B' L2) (C:Chn B.pacts L L2):Bo ks tot B':=by
 refine ⟨h.I,h.fr,Zz1 ?_,h.il⟩;have:=Zju F O.cl;rw [C.e] at this;cases e:Zcd B' with
 | none=>rfl
 | some z=>rw [e] at this;contradiction
end
section
variable {c:Cx} (G:Gd c L10.P) {n:Nat} {Q:AV→Zaa→Prop} {E:String→Zaa→Prop} {H:Zaa} {b pa:Addr} {B:Bk} {w:AV} {tot:Int} {rs:List R10} {ks:List (Str×List (Str×Int))}
theorem Zze {v:AV} (h:isS v=true):∃ k,v = .str k:=by cases v<;>first | exact ⟨_,rfl⟩ | contradiction
theorem Zq4 {H:Zaa} {b z:Addr} {o o':AObj} (hz:H z=none):Kb b H (up (up H b o) z o'):=fun a x h e=>by
 refine rl (Zab (fun q=>by rw [q,hz] at e;contradiction)) (rl (Zab h) ?_);exact e
include G
theorem Zr3 (hb:H b=some (.book B)) (M:Mir10 H pa rs B.pacts) (O:Bo ks tot B) (kw:Kq H w) (hl:∀ r,offQ B w = .ok r→r.2.length≤900)
  (q:∀ t f L2 B' H',H f=none→Kb b H H'→H' b=some (.book B')→H' t=some (.tuple [.bool true,.ref f])→H' f=some (.list (txs L2))→L2.length≤900→Fal B B' L2→Bo ks tot B'→B'.day=B.day→Q (.ref t) H'):CallOK c (n+5) true "_law_called" [.ref b,.ref pa,w] Q E H:=by
 refine G.call (F:=L10.f__law_called) rfl rfl ?_;have hM:c.P.meths=BK.meths:=by refine rl G.hP ?_;rfl
 refine w_st fun K nx=>⟨show 3<5 by decide,nx _ _ ?_⟩
 refine w_st fun K nx=>⟨show 4<5 by decide,nx _ _ ?_⟩
 show wpSs _ _ _ _ _ [some (.ref b),some (.ref pa),some w,some .none,some (.str (S9 ""))] _;refine w_st fun K nx=>?_;dsimp only [Zda];refine ⟨rfl,?_⟩;dsimp only [Zaw,Zby,Zam];refine Zcu hM (by decide) (by decide) hb rfl ?_;dsimp only [Zae,Zag,Zad];have no:∀ {s:Str} {z t:Addr},H z=none→up H z (.list []) t=none→Q (.ref t) (up (up H z (.list [])) t (.tuple [.bool true,.ref z])):=fun {s z t} hz ht=>q t z [] B _ hz (.ext ((Ext.refl.new hz).new ht)) (((Ext.refl.new hz).new ht) _ _ hb) Zac (Zdl Zac ht) (zero_le _) fal0 O rfl;refine Z07 (n:=n) G U10 rfl rfl rfl rfl rfl hb O.I.ok kw.kn ?_;cases hp:Zcm B w with
 | none =>
  refine rl (Zvd hp) ?_;show wpHs _ _ "NoPact" _ _ _ _ _;dsimp only [Zg8,Zuc];refine rl G.hP ?_;refine Eq.mpr (if_pos (by decide +kernel)) ⟨show 4<5 by decide,nx _ _ ?_⟩;show wpSs _ _ _ _ _ [some (.ref b),some (.ref pa),some w,some .none,some (.str (S9 "NoPact"))] _;refine w_st fun K nx=>?_;dsimp only [Zay,x_ao,Zat,Za1,Za6,Zbh,Zad,Zao];show match Zcc c.P H w "str" with | some b=>_ | none=>False
  refine rl (Z1b kw.kn) ?_;dsimp only [Zaj];have fin:wpSs ⟨c,n+4,true⟩ [.ret (.tuple [(.cmp .Eq (.var 4) (.lit (.str (ofString "NoPact")))),(.list [])])] K Q (fun cl _ H=>E cl H) [some (.ref b),some (.ref pa),some w,some .none,some (.str (S9 "NoPact"))] H:=by
   dsimp only [Zaw,Zbq,Zbc,Zae,Zag,Zao,Zad,Zai,Zau];show wcmp .Eq (.str (S9 "NoPact")) (.str (ofString "NoPact")) _ _;dsimp only [Zcg];refine rl (beq_self_eq_true ..) ?_;intro z hz t ht;exact no (s:=till) hz ht
  cases hs:isS w with
  | false=>exact fin
  | true =>
   refine Eq.mpr (if_pos rfl) ?_;obtain ⟨k,rfl⟩:=Zze hs;show wcmp .NotIn (.str k) (.ref pa) _ _;dsimp only [Zc7];refine Zpa M ?_;rw [Zhu O.I] at hp;refine rl hp ?_;exact fin
 | some e =>
 obtain ⟨k,rfl⟩:∃ k,w = .str k:=by cases w<;>first | exact ⟨_,rfl⟩ | contradiction
 obtain ⟨j,x⟩:=e;have hpv:=hp;rw [Zhu O.I] at hp;have hs4:∀ {H1:Zaa} {rs1} {V3:AV} {s:Str} {K:VV→Zaa→Prop},Mir10 H1 pa rs1 B.pacts→wpSs ⟨c,n+4,true⟩ (L10.f__law_called.body.drop 4) (fun _ H=>Q .none H) Q (fun cl _ H=>E cl H) [some (.ref b),some (.ref pa),some (.str k),some V3,some (.str s)] H1→wpSs ⟨c,n+4,true⟩ (L10.f__law_called.body.drop 3) (fun _ H=>Q .none H) Q (fun cl _ H=>E cl H) [some (.ref b),some (.ref pa),some (.str k),some V3,some (.str s)] H1:=fun {H1 rs1 V3 s K} M1 h=>by
  refine w_st fun K nx=>?_;dsimp only [Zay,x_ao,Zat,Za1,Za6,Zbh,Zad,Zao];show match Zcc c.P H1 (.str k) "str" with | some b=>_ | none=>False
  refine rl (show Zcc c.P H1 (.str k) "str" = some true from rfl) ?_;dsimp only [Zaj];refine Eq.mpr (if_pos rfl) ?_;show wcmp .NotIn (.str k) (.ref pa) _ _;dsimp only [Zc7];refine Zpa M1 ?_;refine rl hp ?_;exact nx _ _ h
 have row4:∀ {H1:Zaa} {rs1} {V3:AV} {s:Str} {K:VV→Zaa→Prop} {sa:List S},Mir10 H1 pa rs1 B.pacts→(if (x.state==.opn)=true then K [some (.ref b),some (.ref pa),some (.str k),some V3,some (.str s)] H1 else wpSs ⟨c,n+4,true⟩ sa K Q (fun cl _ H=>E cl H) [some (.ref b),some (.ref pa),some (.str k),some V3,some (.str s)] H1)→wpS ⟨c,n+4,true⟩ (.ite (.cmp .NotEq (.sub (.sub (.var 1) (.var 2)) (.lit (.int 4))) (.lit (.str (ofString "open")))) sa []) K Q (fun cl _ H=>E cl H) [some (.ref b),some (.ref pa),some (.str k),some V3,some (.str s)] H1:=fun {H1 rs1 V3 s K sa} M1 h=>by
  obtain ⟨r,hr,row⟩:=M1.row (Zbi hp).1;dsimp only [Zay,Zao];show wpX _ (.sub (.sub (.var 1) (.var 2)) (.lit (.int (4:Nat)))) [some (.ref b),some (.ref pa),some (.str k),some V3,some (.str s)] _ _ _;refine Zek M1 rfl rfl hp hr rfl ?_;dsimp only [Zai,Zds,Zaj];show if (!(x.state.str==ofString "open"))=true then _ else _
  refine rl Zf4 ?_;cases ho:x.state==Sta.opn with
  | true=>rw [ho] at h;exact h
  | false=>rw [ho] at h;exact h
 by_cases ho:x.state = .opn
 ·refine rl (Zjt hpv ho) ?_;intro z hz;have hr:=hl _ (Zjt hpv ho);obtain ⟨F,C⟩:=Zwm O.I.nm O.cl hp;have P':=O.p.off (w:=.str k) (r:=Za9 B.pacts.length (Zdf B j x) [x.name]) (Zjt hpv ho);have O':=P'.bo O F C;have hd:(Za9 B.pacts.length (Zdf B j x) [x.name]).1.day=B.day:=drag_day.trans Zh7;generalize Za9 B.pacts.length (Zdf B j x) [x.name]=r at F C P' O' hd hr;refine ⟨show 3<5 by decide,nx _ _ ?_⟩;have kb:=Zq4 (b:=b) (o:=.book r.1) (o':=.list (txs r.2)) hz;have M1:Mir10 (up (up H b (.book r.1)) z (.list (txs r.2))) pa rs B.pacts:=(M.kp (Kp.up hb)).kp (.ext (Ext.refl.new (by
   refine rl (Zab (fun e=>by rw [e,hb] at hz;contradiction)) ?_;exact hz)))
  have b1:up (up H b (.book r.1)) z (.list (txs r.2)) b=some (.book r.1):=by
   refine rl (Zab (fun e=>by rw [← e,hb] at hz;contradiction)) ?_;exact Zac
  have z1:up (up H b (.book r.1)) z (.list (txs r.2)) z=some (.list (txs r.2)):=Zac;generalize up (up H b (.book r.1)) z (.list (txs r.2))=H1 at kb M1 b1 z1;refine hs4 (K:=K) M1 ?_;refine w_st fun K nx=>row4 M1 ?_;refine rl ho ?_;refine Eq.mpr (if_pos rfl) (nx _ _ ?_);dsimp only [Zaw,Zbq,Zbc,Zae,Zag,x_ao,Zat,Za1,Zao,Zad,Zai];show wcmp .Eq (.str (S9 "")) (.str (ofString "")) _ _;dsimp only [Zcg,Zaj];refine rl (beq_self_eq_true ..) ?_;refine Eq.mpr (if_pos rfl) ?_;intro i hi;have E2:=Ext.refl.new (o:=.list [.str k]) hi;have i2:up H1 i (.list [.str k]) i=some (.list (txs [k])):=Zac;generalize up H1 i (.list [.str k])=H2 at E2 i2;refine Zk6 (n:=n+2) G (M1.kp (.ext E2)) O.I.nm (E2 _ _ z1) i2 C (show 1≤1000 by decide) (le_trans hr (by decide)) fun H3 E3=>?_;intro t ht;have E4:=(E2.trans E3).new (o:=.tuple [.bool true,.ref z]) ht;exact q t z r.2 r.1 _ hz (kb.trans (.ext E4)) (E4 _ _ b1) Zac (E4 _ _ z1) hr F O' hd
 ·refine rl (Zve hpv ho) ?_;dsimp only [Zg8,Zuc];refine rl G.hP ?_;refine Eq.mpr (if_neg (by decide +kernel)) (Eq.mpr (if_pos (by decide +kernel)) ⟨show 4<5 by decide,nx _ _ ?_⟩);refine hs4 (K:=K) M ?_;refine w_st fun K nx=>row4 M ?_;refine rl (show (x.state==Sta.opn)=false from beq_eq_false_iff_ne.mpr ho) ?_;refine Eq.mpr (if_neg Bool.false_ne_true) ?_;dsimp only [Zaw,Zbq,Zbc,Zae,Zag,Zao,Zad,Zai,Zau];show wcmp .Eq (.str (S9 "NotOpen")) (.str (ofString "NotOpen")) _ _;dsimp only [Zcg];refine rl (beq_self_eq_true ..) ?_;intro z hz t ht;exact no (s:=till) hz ht
end
end Mine
end
section
namespace Mine
open L10
theorem Znv {n:Nat} {B:Bk} {l:List Str}:(Za9 n B l).2.length≤l.length+n:=by
 induction n generalizing B l with
 | zero=>exact le_refl _
 | succ n ih =>
  cases h:Zcd B with
  | none=>refine rl (Zc5 h) ?_;exact le_add_right _ _
  | some e =>
   refine rl (Zc4 h) ?_;refine le_trans ih ?_;refine rl length_append ?_;show l.length+1+n≤_;lia
theorem Zwl {B:Bk} {w:AV} {r:Bk×List Str} (h:offQ B w = .ok r):r.2.length≤1+B.pacts.length:=by
 cases hp:Zcm B w with
 | none=>rw [Zvd hp] at h;contradiction
 | some e =>
  obtain ⟨j,x⟩:=e;by_cases ho:x.state = .opn
  ·rw [Zjt hp ho] at h;refine rl (Eq.symm (Except.ok.inj h)) ?_;exact Znv
  ·rw [Zve hp ho] at h;contradiction
section
variable {B:Bk} {i:Int}
theorem Zkv {d:Int} {X:List Pc}:(Zfz d X).length≤X.length:=by unfold Zfz;refine rl (length_map ..) ?_;exact length_filter_le _ _
theorem Zth (nd:(B.pacts.map (·.name)).Nodup):(Zhq B i).2.length≤2*B.pacts.length:=by
 obtain ⟨_,e⟩:=Znj (B0:=B) (B:={ B with day:=B.day+i }) (d:=B.day+i) nd rfl B.pacts.length (le_refl _);unfold Zhq;refine le_trans Znv ?_;refine rl e (rl take_length ?_);have:=Zkv (d:=B.day+i) (X:=B.pacts);lia
theorem pass_day (ok:BkOK B):(Zhq B i).1.day=B.day+i:=drag_day.trans (Zmb (ok.day _) _).2.2.2
end
abbrev Vp (b pa:Addr) (cl d:Int) (p4 p5 p6 p7 p8:Option AV):VV:=[some (.ref b),some (.ref pa),some (.int cl),some (.int d),p4,p5,p6,p7,p8]
section
variable {c:Cx} (G:Gd c L10.P) {n:Nat} {Q:AV→Zaa→Prop} {E:String→Zaa→Prop} {H:Zaa} {b pa:Addr} {B:Bk} {v:AV} {tot cl i:Int} {rs:List R10} {ks:List (Str×List (Str×Int))}
def PQ (H:Zaa) (b:Addr) (B:Bk) (ks:List (Str×List (Str×Int))) (tot:Int) (Q:AV→Zaa→Prop):Prop:=∀ t f L2 B' H',H f=none→Kb b H H'→H' b=some (.book B')→H' t=some (.tuple [.bool true,.ref f,.int B'.day])→H' f=some (.list (txs L2))→L2.length≤900→Fal B B' L2→Bo ks tot B'→Q (.ref t) H'
theorem PQ.ext {H':Zaa} (q:PQ H b B ks tot Q) (e:Ext H H'):PQ H' b B ks tot Q:=fun t f L2 B' H2 h1 h2=>q t f L2 B' H2 (e.none h1) ((Kb.ext e).trans h2)
include G
theorem Ztg (hb:H b=some (.book B)) (O:Bo ks tot B) (kv:Kv v) (hv:Zhp B v = .error "NoDay") (q:PQ H b B ks tot Q):wpSs ⟨c,n+4,true⟩ (L10.f__law_passed.body.drop 4) (fun _ H=>Q .none H) Q (fun cl _ H=>E cl H) (Vp b pa cl B.day (some v) (some (.bool true)) none none none) H:=by
 have hM:c.P.meths=BK.meths:=by refine rl G.hP ?_;rfl
 refine w_st fun K nx=>⟨show 6<9 by decide,nx _ _ ?_⟩
 refine w_st fun K nx=>?_;dsimp only [Zam,Zau,Zag];intro f hf;refine ⟨show 7<9 by decide,nx _ _ ?_⟩;have E1:=Ext.refl.new (o:=.list []) hf;generalize up H f (.list [])=H1 at E1;refine w_st fun K nx=>?_;dsimp only [Zda];refine ⟨rfl,?_⟩;dsimp only [Zaw,Zby,Zam];refine Zcu hM (by decide) (by decide) (E1 _ _ hb) rfl ?_;refine Zu5 (n:=n) G U10 rfl rfl rfl rfl rfl (E1 _ _ hb) O.I.ok kv.kn ?_;refine rl hv ?_;show wpHs _ _ "NoDay" _ _ _ _ _;dsimp only [Zg8,Zuc];refine rl G.hP ?_;refine Eq.mpr (if_pos (by decide +kernel)) ⟨show 6<9 by decide,nx _ _ ?_⟩;refine w_st fun K nx=>?_;show wpS _ _ _ _ _ (Vp b pa cl B.day (some v) (some (.bool true)) (some (.bool true)) (some (.ref f)) none) _;dsimp only [Zay,x_ao,Zat,Za1,Zad];show Zbb (.bool true) H1 _;dsimp only [Zaj];refine Eq.mpr (if_neg (by decide)) ?_;refine Eq.mpr (if_pos rfl) ?_;dsimp only [Zaw,Zbq,Zbc,Zae,Zag,x_ao,Zat,Za1,Zad,Zau];show Zbb (.bool true) H1 _;dsimp only [Zaj];refine Eq.mpr (if_pos rfl) ?_;intro z hz t ht;have E2:=(E1.new (o:=.list []) hz).new (o:=.tuple [.bool true,.ref z,.int B.day]) ht;exact q t z [] B _ (E1.none hz) (.ext E2) (E2 _ _ hb) Zac (Zdl Zac ht) (zero_le _) fal0 O
theorem Zte (hb:H b=some (.book B)) (M:Mir10 H pa rs B.pacts) (O:Bo ks tot B) (hi:1≤i) (q:PQ H b B ks tot Q):wpSs ⟨c,n+4,true⟩ (L10.f__law_passed.body.drop 4) (fun _ H=>Q .none H) Q (fun cl _ H=>E cl H) (Vp b pa cl B.day (some (.int i)) (some (.bool false)) none none none) H:=by
 have hM:c.P.meths=BK.meths:=by refine rl G.hP ?_;rfl
 refine w_st fun K nx=>⟨show 6<9 by decide,nx _ _ ?_⟩
 refine w_st fun K nx=>?_;dsimp only [Zam,Zau,Zag];intro f hf;refine ⟨show 7<9 by decide,nx _ _ ?_⟩;have E1:=Ext.refl.new (o:=.list []) hf;generalize up H f (.list [])=H1 at E1;refine w_st fun K nx=>?_;dsimp only [Zda];refine ⟨rfl,?_⟩;dsimp only [Zaw,Zby,Zam];refine Zcu hM (by decide) (by decide) (E1 _ _ hb) rfl ?_;refine Zu5 (n:=n) G U10 rfl rfl rfl rfl rfl (E1 _ _ hb) O.I.ok Kv.int.kn ?_;have hp:Zhp B (.int i) = .ok (Zhq B i):=if_pos ⟨rfl,fun z=>absurd hi (Int.not_le.mpr z)⟩;refine rl hp ?_;intro z hz;obtain ⟨F,C⟩:=Zti (i:=i) O.I.nm O.cl;have O':=(O.p.pass hp).bo O F C;have hd:=pass_day (i:=i) O.I.ok;have hr:(Zhq B i).2.length≤900:=le_trans (Zth O.I.nm) (le_trans (Nat.mul_le_mul_left 2 O.I.len) (by decide));generalize Zhq B i=r at F C O' hd hr;have hz0:=E1.none hz;have kb:=(Kb.ext E1).trans (Zq4 (b:=b) (o:=.book r.1) (o':=.list (txs r.2)) hz);have M1:Mir10 (up (up H1 b (.book r.1)) z (.list (txs r.2))) pa rs B.pacts:=((M.kp (.ext E1)).kp (Kp.up (E1 _ _ hb))).kp (.ext (Ext.refl.new (by
  refine rl (Zab (fun e=>by rw [e,E1 _ _ hb] at hz;contradiction)) ?_;exact hz)))
 have b1:up (up H1 b (.book r.1)) z (.list (txs r.2)) b=some (.book r.1):=by
  refine rl (Zab (fun e=>by rw [← e,E1 _ _ hb] at hz;contradiction)) ?_;exact Zac
 have z1:up (up H1 b (.book r.1)) z (.list (txs r.2)) z=some (.list (txs r.2)):=Zac;generalize up (up H1 b (.book r.1)) z (.list (txs r.2))=H2 at kb M1 b1 z1;refine ⟨show 7<9 by decide,nx _ _ ?_⟩;show wpSs _ _ _ _ _ (Vp b pa cl B.day (some (.int i)) (some (.bool false)) (some (.bool false)) (some (.ref z)) none) _;refine w_st fun K nx=>?_;dsimp only [Zay,x_ao,Zat,Za1,Zad];show Zbb (.bool false) H2 _;dsimp only [Zaj];refine Eq.mpr (if_pos rfl) ?_;show Zbb (.bool false) H2 _;dsimp only [Zaj];refine Eq.mpr (if_neg (by decide)) (nx _ _ ?_);refine w_st fun K nx=>?_;dsimp only [Zam,Zba,Zad];refine ⟨rfl,?_⟩;show Zj3 _ _ (.ref pa) _;refine Zdi (Zkx M1) (by refine rl (Zaf ..) (rl (length_map ..) ?_);exact le_trans O.I.len (by decide)) (fB (Zfa (B.day+i)) B.pacts) (fun s hs nx hnx=>?_) fun fi hfi=>?_
 ·obtain ⟨s',hs',rfl⟩:=mem_map.mp hs;obtain ⟨x,hxm,rfl⟩:=mem_map.mp hs';obtain ⟨j,hj⟩:=mem_iff_getElem?.mp hxm;have hp:pAt B.pacts x.name=some (j,x):=Zci O.I.nm hj;obtain ⟨r',hr',row⟩:=M1.row hj;rw [Zxd hp] at hnx;unfold Zfa at hnx;refine Eq.mpr (if_neg Bool.false_ne_true) ?_;dsimp only [Zbg,x_ao,Zat,Za1,Zao];show wpX _ (.sub (.sub (.var 1) (.var 9)) (.lit (.int (4:Nat)))) [some (.ref b),some (.ref pa),some (.int cl),some (.int B.day),some (.int i),some (.bool false),some (.bool false),some (.ref z),none,some (.str x.name)] _ _ _;refine Zek M1 rfl rfl hp hr' rfl ?_;dsimp only [Zai,Zcg,Zaj];refine rl Zf4 ?_;cases ho:x.state==Sta.opn with
  | false=>rw [ho] at hnx;exact hnx
  | true =>
   rw [ho] at hnx;refine Eq.mpr (if_pos rfl) ?_;show wpX _ (.sub (.sub (.var 1) (.var 9)) (.lit (.int (2:Nat)))) [some (.ref b),some (.ref pa),some (.int cl),some (.int B.day),some (.int i),some (.bool false),some (.bool false),some (.ref z),none,some (.str x.name)] _ _ _;refine Zek M1 rfl rfl hp hr' rfl ?_;dsimp only [Zar,Zad];show wbin .Add (.int B.day) (.int i) _ _;dsimp only [Zcv,c_lt,Zaj];rw [Bool.true_and] at hnx;cases hl:decide (x.last<B.day+i) with
   | true=>rw [hl] at hnx;exact hnx
   | false=>rw [hl] at hnx;exact hnx
 ·refine rl (Zvm O.I.nm fun _ h=>h) ?_;have E3:=Ext.refl.new (o:=.list (txs (Zfz (B.day+i) B.pacts))) hfi;have f3:up H2 fi (.list (txs (Zfz (B.day+i) B.pacts))) fi=some (.list (txs (Zfz (B.day+i) B.pacts))):=Zac;refine ⟨show 8<9 by decide,nx _ _ ?_⟩;show wpSs _ _ _ _ _ _ (up H2 fi (.list (txs (Zfz (B.day+i) B.pacts))));generalize up H2 fi (.list (txs (Zfz (B.day+i) B.pacts)))=H3 at E3 f3;show wpSs _ _ _ _ _ (Vp b pa cl B.day (some (.int i)) (some (.bool false)) (some (.bool false)) (some (.ref z)) (some (.ref fi))) _;dsimp only [Zaw,Zbq,Zbc,Zae,Zag,Zan,Zar,Zad];refine Zk6 (n:=n+2) G (M1.kp (.ext E3)) O.I.nm (E3 _ _ z1) f3 C (le_trans Zkv (le_trans O.I.len (by decide))) (le_trans hr (by decide)) fun H4 E4=>?_;intro t ht;have E5:=(E3.trans E4).new (o:=.tuple [.bool true,.ref z,.int (B.day+i)]) ht;exact q t z r.2 r.1 _ hz0 (kb.trans (.ext E5)) (E5 _ _ b1) (by refine rl hd ?_;exact Zac) (E5 _ _ z1) hr F O'
theorem Zp5 (hb:H b=some (.book B)) (M:Mir10 H pa rs B.pacts) (O:Bo ks tot B) (q:PQ H b B ks tot Q):CallOK c (n+5) true "_law_passed" [.ref b,.ref pa,.int cl,.int B.day] Q E H:=by
 refine G.call (F:=L10.f__law_passed) rfl rfl ?_;show wpSs _ _ _ _ _ (Vp b pa cl B.day none none none none none) _;refine w_st fun K nx=>?_;dsimp only [Zam,tv,length_cons,length_nil,Nat.reduceAdd,set_cons_succ,set_cons_zero,Zar,Zai,Zad,getElem?_cons_succ,v_0,Zbv,ne_eq,Zbx,Zcv];refine ⟨by decide,by decide,by decide,nx _ _ ?_⟩;have m3:=Za8 (x:=cl.fdiv 2) (m:=3) (by decide);generalize (cl.fdiv 2).fmod 3=i0 at m3
 suffices go:∀ i:Int,1≤i→wpSs ⟨c,n+4,true⟩ (L10.f__law_passed.body.drop 2) (fun _ H=>Q .none H) Q (fun cl _ H=>E cl H) (Vp b pa cl B.day (some (.int i)) none none none none) H by
  refine w_st fun K nx=>?_;dsimp only [Zay,Zao,Zai,Zar,Zad,getElem?_cons_succ,v_0,Zbv,ne_eq,Zbx,c_eq,Zaj,beq_iff_eq];refine ⟨by decide,by decide,?_⟩;split
  ·dsimp only [Zaw,Zam];dsimp only [tv,length_cons,length_nil,Nat.reduceAdd,set_cons_succ,set_cons_zero,Zar,Zai,Zd5,Int.reduceToNat,Int.reducePow,Zad,getElem?_cons_succ,v_0,Zbv,ne_eq,Zbx,Zcv];refine ⟨by decide,⟨by decide,by decide,by decide +kernel⟩,by decide,by decide,nx _ _ ?_⟩;have:=Za8 (x:=cl.fdiv 24) (m:=10 ^ 9) (by decide);exact go _ (by lia)
  ·exact nx _ _ (go _ (by lia))
 intro i hi;refine w_st fun K nx=>?_;dsimp only [Zam,tv,length_cons,length_nil,Nat.reduceAdd,set_cons_succ,set_cons_zero,Zao,Zai,Zar,Zad,getElem?_cons_succ,v_0,Zbv,ne_eq,Zbx,c_eq];refine ⟨by decide,by decide,by decide,nx _ _ ?_⟩;cases hod:(cl.fdiv 6).fmod 8==2 with
 | false =>
  refine w_st fun K nx=>?_;dsimp only [Zay,Zad];show Zbb (.bool false) H _;dsimp only [Zaj];refine Eq.mpr (if_neg (by decide)) (nx _ _ ?_);exact Zte G hb M O hi q
 | true =>
  refine w_st fun K nx=>?_;dsimp only [Zay,Zad];show Zbb (.bool true) H _;dsimp only [Zaj];refine Eq.mpr (if_pos rfl) ?_;dsimp only [Zaw,Zam,Zav,Zau,Zae,Zag,Zai,Zbl];intro z hz;have E1:=Ext.refl.new (o:=.list [.int 0,.int (-1),.bool true,.none,.str (ofString "2"),.int (-3)]) hz;have z1:up H z (.list [.int 0,.int (-1),.bool true,.none,.str (ofString "2"),.int (-3)]) z=some (.list [.int 0,.int (-1),.bool true,.none,.str (ofString "2"),.int (-3)]):=Zac;generalize up H z (.list [.int 0,.int (-1),.bool true,.none,.str (ofString "2"),.int (-3)])=H1 at E1 z1;dsimp only [tv,length_cons,length_nil,Nat.reduceAdd,set_cons_succ,set_cons_zero,Zar,Zai,Zad,getElem?_cons_succ,v_0,Zbv,ne_eq,Zbx];refine ⟨by decide,by decide,?_⟩;refine Zlq z1 (Za8 (by decide)) (Zbj (by decide)) (by show 6≤1000;decide) fun v hv=>⟨show 4<9 by decide,nx _ _ ?_⟩
  obtain ⟨kv,h⟩:Kv v∧Zhp B v = .error "NoDay":=by
   simp only [mem_cons,not_mem_nil,or_false] at hv;rcases hv with rfl | rfl | rfl | rfl | rfl | rfl
   ·exact ⟨.int,if_neg fun z=>z.2 (by decide)⟩
   ·exact ⟨.int,if_neg fun z=>z.2 (by decide)⟩
   ·exact ⟨.bool,if_neg fun z=>by have:=z.1;contradiction⟩
   ·exact ⟨.none,if_neg fun z=>by have:=z.1;contradiction⟩
   ·exact ⟨.str (by decide),if_neg fun z=>by have:=z.1;contradiction⟩
   ·exact ⟨.int,if_neg fun z=>z.2 (by decide)⟩
  exact Ztg G (E1 _ _ hb) O kv h (q.ext E1)
end
end Mine
end
section
namespace Mine
open L10
structure Rk (own:Str) (wds:List Str) (ps:List (Str×Int)) (ns ins:List Str) (last:Int):Prop where
 pk:(ps.map (·.1)).Nodup
 pm:∀ e∈ps,e.1∈Zcl∧1≤e.2∧e.2≤20
 pl:1≤ps.length∧ps.length≤2
 nn:(own::ns).Nodup
 nw:∀ s∈ns,s∈wds
 nl:ns.length≤8
 ii:∃ p:Str→Bool,ins=(ps.map (·.1)).filter p
 la:0≤last
def PB (H:Zaa) (own:Str) (wds:List Str) (Q:AV→Zaa→Prop):Prop:=∀ t pd ne u ps ns ins last H',Ext H H'→H t=none→H pd=none→H ne=none→H u=none→H' t=some (.list [.ref pd,.ref ne,.int last,.ref u,.str (S9 "open")])→(∃ ep,H' pd=some (.dict ep (dI ps)))→H' ne=some (.list (txs ns))→H' u=some (.list (txs ins))→Rk own wds ps ns ins last→Q (.ref t) H'
abbrev Vb (cl:Int) (own:Str) (wd pd:Addr) (p4 p5 p6 p7 p8 p9 p10:Option AV):VV:=[some (.int cl),some (.str own),some (.ref wd),some (.ref pd),p4,p5,p6,p7,p8,p9,p10]
inductive Nb (H:Zaa) (cl:Int) (own:Str) (wd pd zn zr:Addr) (p6:Option AV) (m:Int) (wds:List Str) (k:Nat) (V':VV) (H':Zaa):Prop
 | mk (p7 p8:Option AV) (r:Int) (ns:List Str) (hV:V'=Vb cl own wd pd (some (.int r)) (some (.ref zn)) p6 p7 p8 none none) (hE:Ext H H') (hz:H' zn=some (.list (txs ns))) (hl:ns.length≤k) (nn:(own::ns).Nodup) (kk:∀ s∈ns,s∈wds) (hr:H' zr=some (.range 0 m))
theorem lt9 {x:Int} {m:Nat} (h1:x≤8) (h:m≤x.toNat):m≤8:=by lia
theorem s7 {x:Str} (h:x∈Zcl):(x.length:Int)=4:=by
 rcases mem_cons.mp h with rfl | h
 ·decide +kernel
 ·refine rl (mem_singleton.mp h) ?_;decide +kernel
section
variable {c:Cx} (G:Gd c L10.P) {n:Nat} {Q:AV→Zaa→Prop} {E:String→Zaa→Prop} {QN:VV→Zaa→Prop} {EE:String→VV→Zaa→Prop} {H:Zaa} {cl:Int} {own:Str} {wd pd:Addr} {wds:List Str} {ps:List (Str×Int)} {g:Gx}
theorem Zyi (hmd:g.md=true) {ne:Addr} {p4 p6 p7 p8:Option AV} {ns:List Str} {ep:Nat} (hd:H pd=some (.dict ep (dI ps))) (hn:H ne=some (.list (txs ns))) (pm:∀ e∈ps,e.1∈Zcl∧1≤e.2∧e.2≤20) (pl:ps.length≤2) (pk:(ps.map (·.1)).Nodup)
  (q:∀ t u ins last H',Ext H H'→H t=none→H u=none→H' t=some (.list [.ref pd,.ref ne,.int last,.ref u,.str (S9 "open")])→H' u=some (.list (txs ins))→(∃ p:Str→Bool,ins=(ps.map (·.1)).filter p)→0≤last→Q (.ref t) H') :
  wpSs g (L10.f__law_pact_by.body.drop 8) QN Q EE (Vb cl own wd pd p4 (some (.ref ne)) p6 p7 p8 none none) H:=by
 refine w_st fun K nx=>?_;dsimp only [Zam,Zba,Zad];refine ⟨hmd,?_⟩;show Zj3 _ _ (.ref pd) _;have hit:Zal H (.ref pd)=some (txs (ps.map (·.1))):=by
  unfold Zal;dsimp only;refine rl hd ?_;show some ((dI ps).map fun e=>AV.str e.1)=_;unfold dI txs;refine rl map_map (rl map_map ?_);rfl
 refine Zdi hit (by refine rl (Zaf ..) (rl (length_map ..) ?_);exact le_trans pl (by decide)) (fun v=>if decide (0<(cl.fdiv 40+4*7+vl ps (Za2 v)).fmod 3) then some v else none) (fun s hs nx hnx=>?_) fun u hu=>?_
 ·obtain ⟨s',hs',rfl⟩:=mem_map.mp hs;obtain ⟨e,he,rfl⟩:=mem_map.mp hs';have l4:=s7 (pm e he).1;refine Eq.mpr (if_neg Bool.false_ne_true) ?_;dsimp only [Zbg,List.cons_append,nil_append,getElem?_cons_succ,v_0,Zao,Zai,Zar,Zav,Zad,Zak,Zae,Zag,Zbv,ne_eq];refine ⟨by decide,by refine rl (show (e.1.length:Nat)=4 from by exact_mod_cast l4) ?_;decide,?_⟩;refine rl l4 ?_;refine ⟨IntMulOk.of_left (by decide +kernel),?_⟩;refine Zux ⟨_,hd⟩ ((Zb9 rfl).mpr (mem_map_of_mem he)) ⟨by decide,?_⟩;dsimp only [c_gt,Zaj];cases hp:decide (0<(cl.fdiv 40+4*7+vl ps e.1).fmod 3) with
  | true=>rw [show Za2 (.str e.1)=e.1 from rfl,hp] at hnx;exact hnx
  | false=>rw [show Za2 (.str e.1)=e.1 from rfl,hp] at hnx;exact hnx
 ·have hf:(txs (ps.map (·.1))).filterMap (fun v=>if decide (0<(cl.fdiv 40+4*7+vl ps (Za2 v)).fmod 3) then some v else none)=txs ((ps.map (·.1)).filter fun s=>decide (0<(cl.fdiv 40+4*7+vl ps s).fmod 3)):=by
   generalize ps.map (·.1)=l
   induction l with
   | nil=>rfl
   | cons s l ih =>
    refine rl filterMap_cons (rl filter_cons (rl ih ?_));refine rl (show Za2 (AV.str s)=s from rfl) ?_;cases decide (0<(cl.fdiv 40+4*7+vl ps s).fmod 3)<;>rfl
  refine rl hf ?_;refine ⟨show 9<11 by decide,nx _ _ ?_⟩;have E1:=Ext.refl.new (o:=.list (txs ((ps.map (·.1)).filter fun s=>decide (0<(cl.fdiv 40+4*7+vl ps s).fmod 3)))) hu;have u1:up H u (.list (txs ((ps.map (·.1)).filter fun s=>decide (0<(cl.fdiv 40+4*7+vl ps s).fmod 3)))) u=some (.list (txs ((ps.map (·.1)).filter fun s=>decide (0<(cl.fdiv 40+4*7+vl ps s).fmod 3)))):=Zac;generalize up H u (.list (txs ((ps.map (·.1)).filter fun s=>decide (0<(cl.fdiv 40+4*7+vl ps s).fmod 3))))=H1 at E1 u1;have i1:∃ p:Str→Bool,((ps.map (·.1)).filter fun s=>decide (0<(cl.fdiv 40+4*7+vl ps s).fmod 3))=(ps.map (·.1)).filter p:=⟨_,rfl⟩
  generalize ((ps.map (·.1)).filter fun s=>decide (0<(cl.fdiv 40+4*7+vl ps s).fmod 3))=ins at u1 i1;refine w_st fun K nx=>?_;dsimp only [Zam,set_cons_succ,set_cons_zero,tv,length_cons,length_nil,Nat.reduceAdd,Zar,Zai,Zad,v_0,Zbv,ne_eq,Zbx];refine ⟨by decide,by decide,by decide,nx _ _ ?_⟩
  suffices go:∀ last:Int,0≤last→wpSs g (L10.f__law_pact_by.body.drop 11) QN Q EE (Vb cl own wd pd p4 (some (.ref ne)) p6 p7 p8 (some (.ref u)) (some (.int last))) H1 by
   refine w_st fun K nx=>?_;dsimp only [Zay,Zao,Zai,Zar,Zad,v_0,Zbv,ne_eq,Zbx,c_eq,Zaj,beq_iff_eq];refine ⟨by decide,by decide,?_⟩;split
   ·dsimp only [Zaw,Zam];dsimp only [tv,length_cons,length_nil,Nat.reduceAdd,set_cons_succ,set_cons_zero,Zar,Zai,Zad,v_0,Zbv,ne_eq,Zbx];refine ⟨by decide,by decide,by decide,nx _ _ ?_⟩;exact go _ (Za8 (by decide))
   ·exact nx _ _ (go _ (Za8 (by decide)))
  intro last hl;refine w_st fun K nx=>?_;intro t ht;exact q t u ins last _ (E1.new ht) (E1.none ht) hu Zac (Zdl u1 ht) i1 hl
set_option tactic.hygienic true in
theorem Zp3 (hmd:g.md=true) {ep:Nat} (hd:H pd=some (.dict ep (dI ps))) (hw:H wd=some (.list (txs wds))) (w0:0<wds.length) (w1:wds.length≤100) (pm:∀ e∈ps,e.1∈Zcl∧1≤e.2∧e.2≤20) (pl:1≤ps.length∧ps.length≤2) (pk:(ps.map (·.1)).Nodup)
  (q:∀ t ne u ns ins last H',Ext H H'→H t=none→H ne=none→H u=none→H' t=some (.list [.ref pd,.ref ne,.int last,.ref u,.str (S9 "open")])→H' ne=some (.list (txs ns))→H' u=some (.list (txs ins))→Rk own wds ps ns ins last→Q (.ref t) H') :
  wpSs g (L10.f__law_pact_by.body.drop 2) QN Q EE (Vb cl own wd pd none none none none none none none) H:=by
 refine w_st fun K nx=>?_;dsimp only [Zam,tv,length_cons,length_nil,Nat.reduceAdd,set_cons_succ,set_cons_zero,Zar,Zai,Zad,v_0,Zbv,ne_eq];refine ⟨by decide,by decide,nx _ _ ?_⟩;generalize cl.fdiv 800=r;refine w_st fun K nx=>?_;intro zn hzn;refine ⟨show 5<11 by decide,nx _ _ ?_⟩;have E1:=Ext.refl.new (o:=.list (txs [])) hzn;have n1:up H zn (.list (txs [])) zn=some (.list (txs [])):=Zac;refine rl (show (AObj.list []) = .list (txs []) from rfl) ?_;generalize up H zn (.list (txs []))=H1 at E1 n1;refine w_st fun K nx=>?_;dsimp only [set_cons_succ,set_cons_zero,Zam,tv,length_cons,length_nil,Nat.reduceAdd,Zar,Zai,Zad,getElem?_cons_succ,v_0,Zbx,ne_eq];refine ⟨by decide,by decide,nx _ _ ?_⟩
 suffices go:∀ sz:Int,0≤sz→sz≤8→wpSs g (L10.f__law_pact_by.body.drop 6) QN Q EE (Vb cl own wd pd (some (.int r)) (some (.ref zn)) (some (.int sz)) none none none none) H1 by
  refine w_st fun K nx=>?_;dsimp only [Zay,Zao,Zai,Zar,Zad,getElem?_cons_succ,v_0,Zbv,ne_eq,Zbx,c_eq,Zaj,beq_iff_eq];refine ⟨by decide,by decide,?_⟩;split
  ·dsimp only [Zaw,Zby,Zam,tv,length_cons,length_nil,Nat.reduceAdd,set_cons_succ,set_cons_zero,Zar,Zai,Zad,getElem?_cons_succ,v_0,Zbv,ne_eq,Zbx];refine ⟨by decide,by decide,by decide,nx _ _ ?_⟩;exact go _ (Za8 (by decide)) (Int.le_of_lt_add_one (Zbj (x:=r.fdiv 24) (m:=9) (by decide)))
  ·refine nx _ _ (go _ (Za8 (by decide)) ?_);have:=Zbj (x:=r) (m:=4) (by decide);lia
 intro sz s0 s8;refine w_st fun K nx=>?_;dsimp only [Zam,tv,length_cons,length_nil,Nat.reduceAdd,set_cons_succ,set_cons_zero,Zar,Zai,Zad,getElem?_cons_succ,v_0,Zbv,ne_eq];refine ⟨by decide,by decide,nx _ _ ?_⟩;generalize r.fdiv 216=r;refine w_st fun K nx=>?_;refine ⟨hmd,?_⟩;dsimp only [Zak,wtg,Zae,Zag,Zad,getElem?_cons_succ,v_0];refine Ztm s0 (Int.le_trans s8 (by decide)) fun zr H2 hzr E2 hr=>?_;refine Zvw hr (Nb H cl own wd pd zn zr (some (.int sz)) sz wds) ⟨_,_,r,[],rfl,E1.trans E2,E2 _ _ n1,le_refl _,nodup_cons.mpr ⟨not_mem_nil,nodup_nil⟩,(fun s hs=>by contradiction),hr⟩ ?_;rintro I hI k V' H' ⟨p7,p8,r',ns,rfl,hE',hzn',hl',nn',kk',hr'⟩;refine ⟨hr',fun hk=>?_,fun hk=>⟨show 7<11 by decide,?_⟩⟩
 ·refine nx _ _ ?_;refine Zyi hmd (hE' _ _ hd) hzn' pm pl.2 pk fun t u ins last H3 E3 ht hu t3 u3 i3 l3=>?_;exact q t zn u ns ins last H3 (hE'.trans E3) (hE'.none ht) hzn (hE'.none hu) t3 (E3 _ _ hzn') u3 ⟨pk,pm,pl,nn',kk',lt9 s8 (hk▸hl'),i3,l3⟩
 ·refine w_st fun K nx=>?_;dsimp only [set_cons_succ,set_cons_zero,Zam,tv,length_cons,length_nil,Nat.reduceAdd,Zav,Zar,Zak,Zae,Zag,Zad,getElem?_cons_succ,v_0];refine Zym (hE' _ _ hw) (le_trans w1 (by decide)) ⟨by lia,?_⟩;have w0':(0:Int)<(wds.length:Nat):=ofNat_lt.mpr w0;refine Zsx (hE' _ _ hw) (Za8 w0') (Zbj w0') (le_trans w1 (by decide)) fun k4 hk4=>⟨by decide,nx _ _ ?_⟩
  refine w_st fun K nx=>?_;dsimp only [Zam,tv,length_cons,length_nil,Nat.reduceAdd,set_cons_succ,set_cons_zero,Zar,Zai,Zad,getElem?_cons_succ,v_0,Zbv,ne_eq];refine ⟨by decide,by decide,nx _ _ ?_⟩;refine w_st fun K nx=>?_;dsimp only [Zay,x_ao,Zat,Za1,Zao,Zc7,Zad,getElem?_cons_succ,v_0,Zds,Zaj,bne_iff_ne,ne_eq];have stay:K (Vb cl own wd pd (some (.int (r'.fdiv 3))) (some (.ref zn)) (some (.int sz)) (some (.int k)) (some (.str k4)) none none) H':=nx _ _ (hI _ _ _ ⟨_,_,_,ns,rfl,hE',hzn',Nat.le_succ_of_le hl',nn',kk',hr'⟩);split
  ·rename_i ho;refine Zjd (no:=true) hzn' ?_;dsimp only [Zaj];split
   ·rename_i hi;dsimp only [Zaw,Zby,Zax,x_bm,Zae,Zag,Zad,getElem?_cons_succ,v_0];refine ⟨Zmo hzn' (.inl rfl),?_⟩;have hrz:zr≠zn:=fun e=>by rw [e,hzn'] at hr';cases hr'
    refine Zde hzn' (by rw [Zaf];lia) (nx _ _ (hI _ _ _ ⟨_,_,_,ns++[k4],rfl,hE'.own hzn,by rw [Zac,Zd7],by rw [length_append];exact succ_le_succ hl',?_,fun s hs=>?_,by rw [Zab hrz];exact hr'⟩))
    ·show (own::ns++[k4]).Nodup;rw [nodup_append];refine ⟨nn',nodup_cons.mpr ⟨not_mem_nil,nodup_nil⟩,fun a ha b hb e=>?_⟩;rw [mem_singleton.mp hb] at e;rcases mem_cons.mp ha with e1 | h1
     ·rw [← e,e1] at ho;exact absurd ho (by simp)
     ·rw [← e,decide_eq_true h1] at hi;contradiction
    ·rcases mem_append.mp hs with hs | hs
     ·exact kk' s hs
     ·refine rl (mem_singleton.mp hs) ?_;exact hk4
   ·exact stay
  ·exact stay
include G
theorem Zod (hw:H wd=some (.list (txs wds))) (w0:0<wds.length) (w1:wds.length≤100) (q:PB H own wds Q):CallOK c (n+1) true "_law_pact_by" [.int cl,.str own,.ref wd] Q E H:=by
 refine G.call (F:=L10.f__law_pact_by) rfl rfl ?_;have a0:=Za8 (x:=cl) (m:=20) (by decide);have a1:=Zbj (x:=cl) (m:=20) (by decide);have b0:=Za8 (x:=cl.fdiv 40) (m:=20) (by decide);have b1:=Zbj (x:=cl.fdiv 40) (m:=20) (by decide);refine w_st fun K nx=>?_;refine ⟨by decide,?_⟩;intro pd ep hpd;refine ⟨show 3<11 by decide,nx _ _ ?_⟩;have E1:=Ext.refl.new (o:=.dict ep (dI [(till,1+cl.fmod 20)])) hpd;have d1:up H pd (.dict ep (dI [(till,1+cl.fmod 20)])) pd=some (.dict ep (dI [(till,1+cl.fmod 20)])):=Zac;show wpSs _ _ _ _ _ (Vb cl own wd pd none none none none none none none) (up H pd (.dict ep (dI [(till,1+cl.fmod 20)])));generalize up H pd (.dict ep (dI [(till,1+cl.fmod 20)]))=H1 at E1 d1;refine w_st fun K nx=>?_;dsimp only [Zay,Zao,Zai,Zar,Zad,v_0,Zbv,ne_eq,Zbx,c_eq,Zaj,beq_iff_eq];refine ⟨by decide,by decide,?_⟩;split
 ·dsimp only [Zaw,Zby,Zam];dsimp only [Zar,Zai,Zad,v_0,Zbv,ne_eq,Zbx,Zcv];refine ⟨by decide,by decide,?_⟩;refine Zp0 (d:=pd) (k:=quay) (fun _ h=>h) (fun _ h=>h) d1 (show 1≤1000 by decide) fun ep'=>nx _ _ ?_;have E2:=E1.own (o:=.dict ep' (dI [(till,1+cl.fmod 20),(quay,1+(cl.fdiv 40).fmod 20)])) hpd;have d2:up H1 pd (.dict ep' (dI [(till,1+cl.fmod 20),(quay,1+(cl.fdiv 40).fmod 20)])) pd=some (.dict ep' (dI [(till,1+cl.fmod 20),(quay,1+(cl.fdiv 40).fmod 20)])):=Zac;refine rl (show putS (dI [(till,1+cl.fmod 20)]) quay (.int (1+(cl.fdiv 40).fmod 20))=dI [(till,1+cl.fmod 20),(quay,1+(cl.fdiv 40).fmod 20)] from by rw [Zhn];congr 1) ?_;generalize up H1 pd (.dict ep' (dI [(till,1+cl.fmod 20),(quay,1+(cl.fdiv 40).fmod 20)]))=H2 at E2 d2;refine Zp3 rfl d2 (E2 _ _ hw) w0 w1 (fun e he=>?_) (show 1≤2∧2≤2 by decide) (show [till,quay].Nodup by decide +kernel) fun t ne u ns ins last H' E' ht hne hu t' n' u' rk=>q t pd ne u _ ns ins last H' (E2.trans E') (E2.none ht) hpd (E2.none hne) (E2.none hu) t' ⟨_,E' _ _ d2⟩ n' u' rk;rcases mem_cons.mp he with rfl | he
  ·exact ⟨.head _,show 1≤1+cl.fmod 20 by lia,show 1+cl.fmod 20≤20 by lia⟩
  ·refine rl (mem_singleton.mp he) ?_;exact ⟨.tail _ (.head _),show 1≤1+(cl.fdiv 40).fmod 20 by lia,show 1+(cl.fdiv 40).fmod 20≤20 by lia⟩
 ·refine nx _ _ ?_;refine Zp3 rfl d1 (E1 _ _ hw) w0 w1 (fun e he=>?_) (show 1≤1∧1≤2 by decide) (show [till].Nodup by decide +kernel) fun t ne u ns ins last H' E' ht hne hu t' n' u' rk=>q t pd ne u _ ns ins last H' (E1.trans E') (E1.none ht) hpd (E1.none hne) (E1.none hu) t' ⟨_,E' _ _ d1⟩ n' u' rk;refine rl (mem_singleton.mp he) ?_;exact ⟨.head _,show 1≤1+cl.fmod 20 by lia,show 1+cl.fmod 20≤20 by lia⟩
end
end Mine
end
section
namespace Mine
open L10
abbrev nm3:List Str:=[S9 "one",S9 "two",S9 "three"]
noncomputable def pOf (st:Sta) (ins:List Str) (s:Str):Pc:=⟨s,[(till,5)],[(quay,5)],[],(s.length:Int) - 3,st,ins⟩
noncomputable def pO (i:Nat):List Pc:=(nm3.take i).map (pOf .opn [till])
noncomputable def pD (i:Nat):List Pc:=(nm3.take i).map (pOf .dn [])
noncomputable def bO (i:Nat):Bk:=⟨0,[(till,5000 - 5*i),(quay,5000)],[(till,5*i),(quay,0)],pO i⟩
noncomputable def bD (i:Nat):Bk:=⟨0,[(till,5000 - 5*i),(quay,5000+5*i)],[(till,0),(quay,0)],pD i⟩
noncomputable def bT (i:Nat) (s:Str):Bk:={ bO i with pacts:=pO i++[pOf .opn [] s] }
theorem t3 {i:Nat} {s:Str} (h:nm3[i]? = some s):Zka (bO i) (.str s) [(.str till,.int 5)] [(.str quay,.int 5)] [] (.int ((s.length:Int) - 3)) = .ok (bT i s)∧Zf3 (bT i s) (.str till) (.str s) = .ok (bO (i+1)):=by
 match i,h with
 | 0,h=>obtain rfl:=osi h;exact ⟨by kernel_rfl,by kernel_rfl⟩
 | 1,h=>obtain rfl:=osi h;exact ⟨by kernel_rfl,by kernel_rfl⟩
 | 2,h=>obtain rfl:=osi h;exact ⟨by kernel_rfl,by kernel_rfl⟩
theorem op1:Zkn ⟨0,[],[],[]⟩ (.str till) = .ok ⟨0,[(till,0)],[(till,0)],[]⟩:=by kernel_rfl
theorem pu1:putQ ⟨0,[(till,0)],[(till,0)],[]⟩ (.str till) (.int 5000) = .ok ⟨0,[(till,5000)],[(till,0)],[]⟩:=by kernel_rfl
theorem op2:Zkn ⟨0,[(till,5000)],[(till,0)],[]⟩ (.str quay) = .ok ⟨0,[(till,5000),(quay,0)],[(till,0),(quay,0)],[]⟩:=by kernel_rfl
theorem pu2:putQ ⟨0,[(till,5000),(quay,0)],[(till,0),(quay,0)],[]⟩ (.str quay) (.int 5000) = .ok (bO 0):=by kernel_rfl
theorem invO:∀ i,i≤3→∃ ks,Inv Zcl ks (bO i) 10000:=by
 intro i
 induction i with
 | zero =>
  intro _;obtain ⟨I1,p1⟩:=inv0.open rfl (by decide) op1;obtain ⟨I2,p2⟩:=(I1.put pu1).open rfl (by decide) op2;exact ⟨[],I2.put pu2⟩
 | succ i ih =>
  intro hi;obtain ⟨ks,I⟩:=ih (Nat.le_of_succ_le hi);obtain ⟨e1,e2⟩:=t3 (getElem?_eq_getElem (show i<nm3.length from hi));obtain ⟨_,_,_,_,I'⟩:=I.tell (lt_of_le_of_lt (show (pO i).length≤3 by unfold pO;refine rl (length_map ..) ?_;exact List.length_take_le' _ _) (by decide)) e1;exact ⟨_,I'.aside e2⟩
theorem Zpp {i:Nat} (hi:i≤3):Zdw (Zcs (pO i)) (bO i)=bD i∧(Zcs (pO i)).Nodup∧∀ x∈Zcs (pO i),ndB (bO i) x=[]:=by
 match i,hi with
 | 0,_=>exact ⟨by kernel_rfl,by decide +kernel,by decide +kernel⟩
 | 1,_=>exact ⟨by kernel_rfl,by decide +kernel,by decide +kernel⟩
 | 2,_=>exact ⟨by kernel_rfl,by decide +kernel,by decide +kernel⟩
 | 3,_=>exact ⟨by kernel_rfl,by decide +kernel,by decide +kernel⟩
theorem Zxa {full g:List Str} {nd:Str→List Str} {done:List Str} (hn:full.Nodup) (h:Grt full nd done g) (h0:∀ x∈full,nd x=[]):g=full :=
 h.sub.eq_of_length (Nat.le_antisymm h.sub.length_le (Zqt hn fun k hk=>h.top (fun x=>x∈full) (fun x hx=>⟨hx,fun o ho=>by rw [h0 x hx] at ho;contradiction⟩) k hk))
theorem p10D {i:Nat} (hi:i≤3):∃ ks,P10 ks 10000 (bD i):=by
 obtain ⟨ks,I⟩:=invO i hi;refine ⟨ks,?_,?_,?_⟩
 ·have:=I.settle (g:=Zcs (pO i)) (List.Sublist.refl _);rw [(Zpp hi).1] at this;exact this
 ·match i,hi with
  | 0,_=>decide +kernel
  | 1,_=>decide +kernel
  | 2,_=>decide +kernel
  | 3,_=>decide +kernel
 ·match i,hi with
  | 0,_=>decide +kernel
  | 1,_=>decide +kernel
  | 2,_=>decide +kernel
  | 3,_=>decide +kernel
theorem Zqa {i:Nat}:Zc6 (pD i)=nm3.take i∧(pD i).map (·.name)=nm3.take i∧∀ x∈pD i,x.state = .dn:=by
 unfold pD;generalize nm3.take i=l;refine ⟨?_,by refine rl map_map ?_;exact map_id _,fun x hx=>?_⟩
 ·unfold Zc6;rw [List.filter_eq_self.mpr,map_map]
  ·exact map_id _
  ·intro x hx;obtain ⟨s,_,rfl⟩:=mem_map.mp hx;rfl
 ·obtain ⟨s,_,rfl⟩:=mem_map.mp hx;rfl
theorem Zoz {l l':List Str} (h:l'.Sublist l) (nd:l.Nodup):(l.filter fun s=>decide (s∈l'))=l':=by
 induction h with
 | slnil=>rfl
 | cons a h ih =>
  obtain ⟨n1,n2⟩:=nodup_cons.mp nd;refine rl filter_cons (rl (if_neg (fun z=>n1 (h.subset (of_decide_eq_true z)))) ?_);exact ih n2
 | cons_cons a h ih =>
  obtain ⟨n1,n2⟩:=nodup_cons.mp nd;refine rl filter_cons (rl (if_pos (decide_eq_true (mem_cons_self))) ?_);congr 1;refine (List.filter_congr fun s hs=>?_).trans (ih n2);refine decide_eq_decide.mpr ⟨fun z=>(mem_cons.mp z).resolve_left fun e=>n1 (e▸hs),fun z=>mem_cons_of_mem _ z⟩
theorem Zzf {x:Pc} (h:x.inside.Sublist (x.parts.map (·.1))) (nd:(x.parts.map (·.1)).Nodup):Zfc x=x.inside:=by
 have:=Zoz h nd;rw [List.filter_map] at this;exact this
theorem Zr9 {B:Bk} {s k:Str} {j:Nat} {x:Pc} {i:Int} (hp:Zbz B (.str s)=true) (hx:Zcm B (.str k)=some (j,x)) (ho:x.state = .opn) (hl:lk x.parts s=some i) (hn:s ∉ x.inside) (hf:¬ vl B.free s<i) :
  Zf3 B (.str s) (.str k) = .ok { B with pacts:=B.pacts.set j { x with inside:=x.inside++[s] },free:=pt B.free s (vl B.free s - i),aside:=pt B.aside s (vl B.aside s+i) }:=by
 unfold Zf3;refine rl (if_pos hp) (rl hx ?_);dsimp only;refine rl (if_pos ho) (rl (show Za2 (.str s)=s from rfl) (rl hl ?_));dsimp only;refine rl (if_neg hn) ?_;exact if_neg hf
end Mine
end
section
namespace Mine
open L10
theorem Zfx {g:Gx} {V:VV} {v:AV}:Pure g V (.lit v) v:=fun _ _ _ h=>h
theorem Zsp {g:Gx} {V:VV} {i:Nat} {v:AV} (h:V[i]? = some (some v)):Pure g V (.var i) v:=fun Q E H q=>by dsimp only [Zad];refine rl h ?_;exact q
abbrev Zz7 (g:Gx) (V:VV) (e:X) (v:AV) (H:Zaa):Prop:=∀ (Q:AV→Zaa→Prop) (E:String→Zaa→Prop) (H1:Zaa),Ext H H1→Q v H1→wpX g e V Q E H1
def K2 (b pa:Addr) (H H':Zaa):Prop:=∀ a x,a≠b→a≠pa→H a=some x→H' a=some x
section
variable {b pa:Addr} {H H' H'':Zaa}
theorem K2.trans (x:K2 b pa H H') (y:K2 b pa H' H''):K2 b pa H H'':=fun a o h k e=>y a o h k (x a o h k e)
theorem K2.ext (e:Ext H H'):K2 b pa H H':=fun a o _ _ h=>e a o h
theorem K2.kb (e:Kb b H H'):K2 b pa H H':=fun a o h _ k=>e a o h k
theorem K2.two {y:AObj}:K2 b pa H (up H pa y):=fun a o _ h e=>by refine rl (Zab h) ?_;exact e
end
abbrev Vt (sp b:Addr) (m:Int) (wd pl pa:Addr) (p6 p7 p8 p9 p10:Option AV):VV:=[some (.ref sp),some (.ref b),some (.int m),some (.ref wd),some (.ref pl),some (.ref pa),p6,p7,p8,p9,p10]
theorem Zrj {H:Zaa} {pa t:Addr} {rs:List R10} {X:List Pc} (M:Mir10 H pa rs X) (h:H t=none):t ∉ rs.map (·.t):=fun z=>by
 obtain ⟨r,hr,rfl⟩:=mem_map.mp z;exact Zh3 M _ (Zh2 hr (.inl rfl)) h
theorem Mir10.add {H H':Zaa} {pa:Addr} {rs:List R10} {X:List Pc} {r:R10} {x:Pc} {ep:Nat} (M:Mir10 H pa rs X) (hn:pAt X x.name=none) (hp:H' pa=some (.dict ep (putS (dP X (rs.map (·.t))) x.name (.ref r.t)))) (hr:Row10 H' r x) (hd:r.pd≠pa) (ht:r.t ∉ rs.map (·.t)) (k:∀ a o,a≠pa→H a=some o→H' a=some o):Mir10 H' pa (rs++[r]) (X++[x]):=by
 obtain ⟨ep0,hp0⟩:=M.p;have go:∀ {qs:List R10} {Y},(∀ r∈qs,r∈rs)→All2 (Row10 H) qs Y→All2 (Row10 H') qs Y:=fun {qs Y} hs h=>by
  induction qs generalizing Y with
  | nil=>cases Y with
   | nil=>trivial
   | cons=>exact h.elim
  | cons r qs ih=>cases Y with
   | nil=>exact h.elim
   | cons x Y =>
    obtain ⟨t,⟨e',d⟩,n,u⟩:=h.1;exact ⟨⟨k _ _ (fun q=>by rw [q,hp0] at t;cases t) t,⟨e',k _ _ (M.sd r (hs r (.head _))) d⟩,k _ _ (fun q=>by rw [q,hp0] at n;cases n) n,k _ _ (fun q=>by rw [q,hp0] at u;cases u) u⟩,ih (fun r h=>hs r (.tail _ h)) h.2⟩
 refine ⟨⟨ep,?_⟩,(go (fun _ h=>h) M.r).snoc hr,?_,fun q hq=>?_⟩
 ·refine rl hp (rl map_append ?_);show some (AObj.dict ep _)=some (.dict ep (dP (X++[x]) (rs.map (·.t)++[r.t])));refine rl (Zxg M.len) ?_;unfold putS;refine rl (Zj1 M.len) (rl hn ?_);rfl
 ·rw [map_append,nodup_append];refine ⟨M.nd,nodup_cons.mpr ⟨not_mem_nil,nodup_nil⟩,fun a ha b hb e=>?_⟩;rw [mem_singleton.mp hb] at e;have e:a=r.t:=e;exact ht (e▸ha)
 ·rcases mem_append.mp hq with h | h
  ·exact M.sd q h
  ·refine rl (mem_singleton.mp h) ?_;exact hd
theorem Zqw {rs:List R10} {r:R10} {u:Addr} (h:u∈lsOf (rs++[r])):u∈lsOf rs∨u=r.t∨u=r.ne∨u=r.u:=by
 unfold lsOf at h;rw [List.flatMap_append] at h;rcases mem_append.mp h with h | h
 ·exact .inl h
 ·rw [List.flatMap_singleton] at h;rcases mem_cons.mp h with h | h
  ·exact .inr (.inl h)
  rcases mem_cons.mp h with h | h
  ·exact .inr (.inr (.inl h))
  ·exact .inr (.inr (.inr (mem_singleton.mp h)))
inductive P1 (H:Zaa) (sp b:Addr) (m:Int) (wd pl pa:Addr) (p7 p8 p9 p10:Option AV) (i:Nat) (V':VV) (H':Zaa):Prop
 | mk (p6:Option AV) (rs:List R10) (hV:V'=Vt sp b m wd pl pa p6 p7 p8 p9 p10) (hK:K2 b pa H H') (hb:H' b=some (.book (bO i))) (M:Mir10 H' pa rs (pD i)) (fr:∀ u∈lsOf rs,H u=none)
section
variable {c:Cx} (G:Gd c L10.P) {n:Nat} {V:VV} {Q:AV→Zaa→Prop} {E:String→Zaa→Prop} {QN:VV→Zaa→Prop} {EE:String→VV→Zaa→Prop} {H:Zaa} {sp b wd pl pa:Addr} {B:Bk} {m:Int}
include G
theorem Zxy {i:Nat} {en ep eg ee el:X} {v last:AV} {pL gL:List (AV×AV)} {nL:List AV} (hb:H b=some (.book B)) (ok:BkOK B) (hV:V[i]? = some (some (.ref b))) (hn:Zz7 ⟨c,n+4,true⟩ V en v H) (hp:Lays ⟨c,n+4,true⟩ V ep pL H) (hg:Lays ⟨c,n+4,true⟩ V eg gL H) (he:Z0b ⟨c,n+4,true⟩ V ee nL H) (hl:Zz7 ⟨c,n+4,true⟩ V el last H)
  (kv:Kv v) (kl:Kv last) (kn:∀ v∈nL,Kv v) (l1:pL.length≤1000) (l2:gL.length≤1000) (l3:nL.length≤1000) (q:∀ H',Ext H H'→Ends (Zka B v pL gL nL last) (fun B'=>Q .none (up H' b (.book B'))) (fun cl=>E cl H')):wpX ⟨c,n+4,true⟩ (.meth (.var i) "tell" [en,ep,eg,ee,el]) V Q E H:=by
 have hM:c.P.meths=BK.meths:=by refine rl G.hP ?_;rfl
 refine Zcu hM (by decide) (by decide) hb hV ?_;refine rl Zae ?_;refine hn _ _ _ .refl ?_;refine rl Zae ?_;refine hp _ _ _ .refl fun H1 z1 ts hE1 hz1 hp1=>?_;refine rl Zae ?_;refine hg _ _ _ hE1 fun H2 z2 us hE2 hz2 hp2=>?_;refine rl Zae ?_;refine he _ _ _ (hE1.trans hE2) fun H3 z3 hE3 hz3=>?_;have hE:=(hE1.trans hE2).trans hE3;refine rl Zae ?_;refine hl _ _ _ hE ?_;refine rl Zag ?_;exact Zxx G U10 rfl rfl rfl rfl (by refine rl G.hP ?_;rfl) (hE _ _ hb) ok kv kl (hE3 _ _ (hE2 _ _ hz1)) ((hp1.ext hE2).ext hE3) (hE3 _ _ hz2) (hp2.ext hE3) hz3 kn l1 l2 l3 (q H3 hE)
theorem Zwf {p:Nat} {p7 p8 p9 p10:Option AV} {ep0:Nat} (hp3:p≤3) (hb:H b=some (.book (bO 0))) (hpl:H pl=some (.list (txs (nm3.take p)))) (hpa:H pa=some (.dict ep0 [])) {rest:List S}
  (q:∀ H' rs p6,K2 b pa H H'→H' b=some (.book (bD p))→Mir10 H' pa rs (pD p)→(∀ u∈lsOf rs,H u=none)→wpSs ⟨c,n+4,true⟩ rest QN Q EE (Vt sp b m wd pl pa p6 p7 p8 p9 p10) H') :
  wpSs ⟨c,n+4,true⟩ ((L10.f__law_pacts.body.drop 6).take 2++rest) QN Q EE (Vt sp b m wd pl pa none p7 p8 p9 p10) H:=by
 have hM:c.P.meths=BK.meths:=by refine rl G.hP ?_;rfl
 have plb:pl≠b:=fun e=>by rw [e,hb] at hpl;cases hpl
 have plp:pl≠pa:=fun e=>by rw [e,hpa] at hpl;cases hpl
 have bpa:b≠pa:=fun e=>by rw [e,hpa] at hb;cases hb
 show wpSs _ (_::_::rest) _ _ _ _ _;refine w_st fun K nx=>?_;dsimp only [Zb3,Zad];refine ⟨rfl,?_⟩;show WFor _ _ (.ref pl) _ _;refine Zdb (xs:=txs (nm3.take p)) (by simp only [Zal,hpl]) (P1 H sp b m wd pl pa p7 p8 p9 p10) ⟨none,[],rfl,fun _ _ _ _ h=>h,hb,⟨⟨ep0,hpa⟩,trivial,nodup_nil,fun r hr=>by contradiction⟩,fun u hu=>by contradiction⟩ ?_;rintro J hJ i V' H' ⟨p6,rs,rfl,hK,hb',M,fr⟩;refine ⟨(hK _ _ plb plp hpl).trans hpl.symm,fun hi=>nx _ _ ?_,fun v hv=>⟨show 6<11 by decide,?_⟩⟩
 ·rw [Zaf,length_take,min_eq_left (show p≤nm3.length from hp3)] at hi;obtain ⟨ks,I⟩:=invO i (hi▸hp3);obtain ⟨s1,s2,s3⟩:=Zpp (hi▸hp3:i≤3);refine w_st fun K nx=>?_;dsimp only [Zax];refine Zcu hM (by decide) (by decide) hb' rfl ?_;refine Zs2 (n:=n+1) G U10 rfl rfl rfl rfl rfl rfl hb' I.ok I.nm fun z g hz hg=>nx _ _ ?_;have hge:g=Zcs (pO i):=Zxa s2 hg s3;refine rl hge (rl s1 (rl hi ?_));rw [hi] at M;have hzb:z≠b:=fun e=>by rw [e,hb'] at hz;contradiction
  refine q _ rs p6 (hK.trans (.kb (Zq4 hz))) (by refine rl (Zab hzb.symm) ?_;exact Zac) ((M.kp (Kp.up hb')).kp (.ext (Ext.refl.new (by refine rl (Zab hzb) ?_;exact hz)))) fr
 unfold txs at hv;rw [getElem?_map,map_eq_some_iff] at hv;obtain ⟨s,hs,rfl⟩:=hv;have hip:i<p:=by
  have:=(gsi hs).1;rw [length_take] at this;lia
 rw [List.getElem?_take_of_lt hip] at hs;obtain ⟨e1,e2⟩:=t3 hs;have hi3:i<3:=Nat.lt_of_lt_of_le hip hp3;obtain ⟨ks,I⟩:=invO i (le_of_lt hi3);have hsn:isNm s=true:=(show ∀ s∈nm3,isNm s=true by decide +kernel) s (mem_of_getElem? hs);have htn:isNm till=true:=by decide +kernel
 have hls:s.length<2 ^ 62:=by
  have:=(show ∀ s∈nm3,s.length<2 ^ 62 by decide +kernel) s (mem_of_getElem? hs);exact this
 show wpSs _ _ _ _ _ (Vt sp b m wd pl pa (some (.str s)) p7 p8 p9 p10) _;refine w_st fun K nx=>?_;dsimp only [Zax];refine Zxy (n:=n) (v:=.str s) (pL:=[(.str till,.int 5)]) (gL:=[(.str quay,.int 5)]) (nL:=[]) (last:=.int ((s.length:Int) - 3)) G hb' I.ok rfl (fun Q E H1 _ h=>h) (lay1 Zfx Zfx (.nm htn) .int) (lay1 Zfx Zfx (.nm (by decide +kernel)) .int) Z1a (fun Q E H1 _ h=>⟨hls,h⟩) (.nm hsn) .int (fun v hv=>by contradiction) (by decide) (by decide) (by decide) fun H1 E1=>?_;refine rl e1 ?_;refine nx _ _ ?_;obtain ⟨_,_,_,_,I1⟩:=I.tell (lt_of_le_of_lt (show (pO i).length≤3 by unfold pO;refine rl (length_map ..) ?_;exact List.length_take_le' _ _) (by decide)) e1;have k1:K2 b pa H' (up H1 b (.book (bT i s))):=(K2.ext E1).trans (.kb .up);have b1:up H1 b (.book (bT i s)) b=some (.book (bT i s)):=Zac;have M1:=(M.kp (.ext E1)).kp (Kp.up (y:=.book (bT i s)) (E1 _ _ hb'));generalize up H1 b (.book (bT i s))=H2 at k1 b1 M1;refine w_st fun K nx=>?_;dsimp only [Zax];refine Zcu hM (by decide) (by decide) b1 rfl ?_;dsimp only [Zae,Zag,Zai,Zad];show CallOK _ _ _ _ [.ref b,.str till,.str s] _ _ _;refine Zsb (n:=n) G U10 rfl rfl b1 (Kv.nm htn).kn (Kv.nm hsn).kn I1.ok ?_;refine rl e2 ?_;refine nx _ _ ?_;have k2:=k1.trans (K2.kb (Kb.up (b:=b) (H:=H2) (y:=.book (bO (i+1)))):K2 b pa H2 (up H2 b (.book (bO (i+1)))));have b2:up H2 b (.book (bO (i+1))) b=some (.book (bO (i+1))):=Zac;have M2:=M1.kp (Kp.up (y:=.book (bO (i+1))) b1);generalize up H2 b (.book (bO (i+1)))=H3 at k2 b2 M2;dsimp only [Zaw,Zby,Zam,Zau,Zae,Zag,Za7,Zai,Zar,Zak,Zad];show ∀ d ep,H3 d=none→_;intro d ed hd ne hne;show Zc1 _ .len [.str s] _ _;refine rl Zhw ⟨hls,?_⟩;show ∀ u,_→_;intro u hu t ht;have E4:=(((Ext.refl.new (o:=.dict ed [(till,.int 5)]) hd).new (o:=.list []) hne).new (o:=.list []) hu).new (o:=.list [.ref d,.ref ne,.int ((s.length:Int) - 3),.ref u,.str (ofString "done")]) ht;have hrow:Row10 (up (up (up (up H3 d (.dict ed [(till,.int 5)])) ne (.list [])) u (.list [])) t (.list [.ref d,.ref ne,.int ((s.length:Int) - 3),.ref u,.str (ofString "done")])) ⟨t,d,ne,u⟩ (pOf .dn [] s):=⟨Zac,⟨ed,Zdl (Zdl (Zdl Zac hne) hu) ht⟩,Zdl (Zdl Zac hu) ht,Zdl Zac ht⟩
 have n3:=((Ext.refl.new (o:=.dict ed [(till,.int 5)]) hd).new (o:=.list []) hne)
 have ht3:H3 t=none:=(n3.new (o:=.list []) hu).none ht;have hu3:H3 u=none:=n3.none hu;have hne3:H3 ne=none:=(Ext.refl.new (o:=.dict ed [(till,.int 5)]) hd).none hne;generalize up (up (up (up H3 d (.dict ed [(till,.int 5)])) ne (.list [])) u (.list [])) t (.list [.ref d,.ref ne,.int ((s.length:Int) - 3),.ref u,.str (ofString "done")])=H4 at E4 hrow;have M4:=M2.kp (.ext E4);obtain ⟨ep4,hp4⟩:=M4.p;have hnn:pAt (pD i) s=none:=by
  cases e:pAt (pD i) s with
  | none=>rfl
  | some e' =>
   have g:=Zbi (j:=e'.1) (q:=e'.2) e;have z:s∈nm3.take i:=by refine rl (Eq.symm ((Zqa (i:=i)).2.1)) (rl g.2.symm ?_);exact mem_map_of_mem (mem_of_getElem? g.1)
   have hnd:=(show nm3.Nodup by decide +kernel).sublist (take_sublist (i+1) nm3);rw [Zb4 hs] at hnd;exact absurd rfl ((nodup_append.mp hnd).2.2 _ z _ (.head _))
 have dpa:d≠pa:=fun e=>by obtain ⟨_,hp3'⟩:=M2.p;rw [e,hp3'] at hd;contradiction
 refine Zp0 (d:=pa) (k:=s) (fun _ h=>h) (fun _ h=>h) hp4 (by have:=congrArg List.length (Zrs M4.len);rw [length_map,length_map] at this;refine rl (this ..) ?_;unfold pD;refine rl (length_map ..) (rl (length_take ..) ?_);exact le_trans (Nat.min_le_right _ _) (by decide)) fun ep'=>?_;have kp5:∀ a o,a≠pa→H4 a=some o→up H4 pa (.dict ep' (putS (dP (pD i) (rs.map (·.t))) s (.ref t))) a=some o:=fun a o h e=>by refine rl (Zab h) ?_;exact e
 obtain ⟨ed',hd4⟩:=hrow.d;have nl:∀ {a l},H4 a=some (.list l)→a≠pa:=fun h e=>by rw [e,hp4] at h;cases h
 have hrow5:Row10 (up H4 pa (.dict ep' (putS (dP (pD i) (rs.map (·.t))) s (.ref t)))) ⟨t,d,ne,u⟩ (pOf .dn [] s):=⟨kp5 _ _ (nl hrow.t) hrow.t,⟨ed',kp5 _ _ dpa hd4⟩,kp5 _ _ (nl hrow.n) hrow.n,kp5 _ _ (nl hrow.u) hrow.u⟩
 have M5:Mir10 (up H4 pa (.dict ep' (putS (dP (pD i) (rs.map (·.t))) s (.ref t)))) pa (rs++[⟨t,d,ne,u⟩]) (pD i++[pOf .dn [] s]):=M2.add (x:=pOf .dn [] s) hnn Zac hrow5 dpa (Zrj M2 ht3) fun a o h e=>kp5 a o h (E4 _ _ e);have hK3:K2 b pa H H3:=hK.trans k2;have hK5:K2 b pa H (up H4 pa (.dict ep' (putS (dP (pD i) (rs.map (·.t))) s (.ref t)))):=(hK3.trans (.ext E4)).trans .two;have gone:∀ {a},H3 a=none→a≠b→a≠pa→H a=none:=fun {a} h h1 h2=>by
  cases e:H a with
  | none=>rfl
  | some o=>rw [hK3 a o h1 h2 e] at h;contradiction
 have nb:∀ {a},H3 a=none→a≠b:=fun h e=>by rw [e,b2] at h;contradiction
 have np:∀ {a},H3 a=none→a≠pa:=fun h e=>by obtain ⟨_,hp3'⟩:=M2.p;rw [e,hp3'] at h;contradiction
 refine hJ _ _ _ ⟨_,rs++[⟨t,d,ne,u⟩],rfl,hK5,kp5 _ _ bpa (E4 _ _ b2),?_,fun w hw=>?_⟩
 ·have:pD (i+1)=pD i++[pOf .dn [] s]:=by unfold pD;refine rl (Zb4 hs) (rl map_append ?_);rfl
  refine rl this ?_;exact M5
 ·rcases Zqw hw with h | rfl | rfl | rfl
  ·exact fr w h
  ·exact gone ht3 (nb ht3) (np ht3)
  ·exact gone hne3 (nb hne3) (np hne3)
  ·exact gone hu3 (nb hu3) (np hu3)
end
end Mine
end
section
namespace Mine
open L10
theorem Zz3 {k:Int} (h0:0≤k) (h1:k<52):chI ((k.fdiv 26).fmod 26)=97∨chI ((k.fdiv 26).fmod 26)=98:=by
 have e:(k.fdiv 26).fmod 26=0∨(k.fdiv 26).fmod 26=1:=by
  refine rl (Int.fdiv_eq_ediv_of_nonneg _ (by decide)) (rl (fmod_eq_emod_of_nonneg _ (by decide)) ?_);lia
 rcases e with e | e
 ·refine rl e ?_;exact .inl (by decide +kernel)
 ·refine rl e ?_;exact .inr (by decide +kernel)
theorem Zvu {k cl:Int} (h0:0≤k) (h1:k<52):(Zd6 k cl).length=1∨97∈Zd6 k cl∨98∈Zd6 k cl:=by
 have go:∀ {l:List Nat},(∀ ch∈Zdn k,ch∈l)→97∈l∨98∈l:=fun {l} h=>by
  have hm:=h (chI ((k.fdiv 26).fmod 26)) (.head _);rcases Zz3 h0 h1 with e | e
  ·exact .inl (e▸hm)
  ·exact .inr (e▸hm)
 unfold Zd6;split
 ·dsimp only;split
  ·exact .inl rfl
  ·exact .inr (go fun ch h=>mem_append_left _ h)
 ·exact .inr (go fun ch h=>mem_append_left _ (mem_append_right _ h))
theorem Zy0:∀ s∈nm3,s.cps.toList.length≠1∧97 ∉ s.cps.toList∧98 ∉ s.cps.toList:=by decide +kernel
theorem Zsk {cl:Int} {m:Nat} (hm:m≤52):∀ s∈Zei cl m,s ∉ nm3:=fun s hs h=>by
 unfold Zei at hs;obtain ⟨k,hk,rfl⟩:=mem_map.mp hs;have hk:=mem_range.mp hk;obtain ⟨n1,n2,n3⟩:=Zy0 _ h;have e:(word (k:Int) cl).cps.toList=Zd6 k cl:=rfl;rw [e] at n1 n2 n3;rcases Zvu (k:=k) (cl:=cl) (natCast_nonneg k) (by lia) with h | h | h
 ·exact n1 h
 ·exact n2 h
 ·exact n3 h
structure Tb (ks:List (Str×List (Str×Int))) (p k:Nat) (ws:List Str) (B:Bk):Prop where
 P:P10 ks 10000 B
 nf:∀ x∈B.pacts,x.state≠.fln
 day:B.day=0
 nm:B.pacts.map (·.name)=nm3.take p++ws.take k
 dn:(Zc6 B.pacts).length=p
 as:∀ s,vl B.aside s≤20*k
structure Tm (ks:List (Str×List (Str×Int))) (p k:Nat) (P0:List Pc) (x0:Pc) (ins:List Str) (m:Nat) (B:Bk):Prop where
 pc:B.pacts=P0++[{ x0 with inside:=ins.take m }]
 I:Inv Zcl ks B 10000
 fr:∀ s∈Zcl,vl B.free s=5000 - vl B.aside s+(if s=till then -5 else 5)*(p:Int)
 day:B.day=0
 as:∀ s,vl B.aside s≤20*k+(if s∈ins.take m then 20 else 0)
section
variable {ks:List (Str×List (Str×Int))} {p k m:Nat} {P0:List Pc} {x0:Pc} {ins:List Str} {B:Bk} {s:Str}
theorem Zxv {l:List (Str×Int)} {e:Str×Int} (nd:(l.map (·.1)).Nodup) (h:e∈l):vl l e.1=e.2:=by
 induction l with
 | nil=>contradiction
 | cons a l ih =>
  obtain ⟨n1,n2⟩:=nodup_cons.mp nd;refine rl Zfw ?_;rcases mem_cons.mp h with rfl | h
  ·exact rl (if_pos rfl) rfl
  ·refine rl (if_neg (show ¬ a.1=e.1 from fun z=>n1 (by show a.1∈l.map (·.1);rw [z];exact mem_map_of_mem h))) ?_;exact ih n2 h
theorem Zvh (h:∀ x∈B.pacts,x.state≠.fln):∀ s,Zbo B s=false:=fun s=>by
 unfold Zbo;cases e:pAt B.pacts s with
 | none=>rfl
 | some w=>exact beq_eq_false_iff_ne.mpr (h _ (mem_of_getElem? (Zbi (j:=w.1) (q:=w.2) e).1))
theorem Tm.step (T:Tm ks p k P0 x0 ins m B) (hp:p≤3) (hk:k≤40) (ho:x0.state = .opn) (hs:ins[m]? = some s) (hi:∀ e∈x0.parts,e.1∈Zcl∧1≤e.2∧e.2≤20) (pk:(x0.parts.map (·.1)).Nodup) (hsub:ins.Sublist (x0.parts.map (·.1))) :
  ∃ B',Zf3 B (.str s) (.str x0.name) = .ok B'∧Tm ks p k P0 x0 ins (m+1) B':=by
 have hsm:s∈x0.parts.map (·.1):=hsub.subset (mem_of_getElem? hs);obtain ⟨e,he,rfl⟩:=mem_map.mp hsm;have hpu:=(hi e he).1;have hlk:lk x0.parts e.1=some e.2:=by
  have h1:Mine.hs x0.parts e.1=true:=(Zb9 rfl).mpr hsm;refine rl (Zfv h1) ?_;exact congrArg some (Zxv pk he)
 have hj:B.pacts[P0.length]? = some { x0 with inside:=ins.take m }:=by
  refine rl (T.pc ..) (rl (getElem?_append_right (le_refl _) ..) (rl (sub_self ..) ?_));rfl
 have hpv:Zcm B (.str x0.name)=some (P0.length,{ x0 with inside:=ins.take m }):=by
  refine rl (Zhu T.I) ?_;exact Zci T.I.nm hj
 have htk:ins.take (m+1)=ins.take m++[e.1]:=Zb4 hs;have hnd:(ins.take m++[e.1]).Nodup:=htk▸(pk.sublist hsub).sublist (take_sublist _ _);have hn:e.1 ∉ ins.take m:=fun z=>absurd rfl ((nodup_append.mp hnd).2.2 _ z _ (.head _));have has:=T.as e.1;rw [if_neg hn] at has;have hfr:=T.fr e.1 hpu;have hd:-15≤(if e.1=till then (-5:Int) else 5)*(p:Int):=by split<;>lia
 have hq:=Zr9 (B:=B) (s:=e.1) (k:=x0.name) (i:=e.2) (by refine rl (Zjn T.I Zdc) ?_;exact (Zb9 T.I.fk).mpr hpu) hpv ho hlk hn (by have:=(hi e he).2.2;lia);refine ⟨_,hq,?_,T.I.aside hq,fun s hs=>?_,T.day,fun s=>?_⟩
 ·show B.pacts.set P0.length _=_;refine rl (T.pc ..) (rl (List.set_append_right _ _ (le_refl _) ..) (rl (sub_self ..) (rl (htk ..) ?_)));rfl
 ·show vl (pt B.free e.1 (vl B.free e.1 - e.2)) s=5000 - vl (pt B.aside e.1 (vl B.aside e.1+e.2)) s+_;refine rl Zj5 (rl Zj5 ?_);by_cases h:s=e.1
  ·refine rl (if_pos h) (rl (if_pos h) (rl h (rl hfr ?_)));lia
  ·refine rl (if_neg h) (rl (if_neg h) ?_);exact T.fr s hs
 ·show vl (pt B.aside e.1 (vl B.aside e.1+e.2)) s≤_;refine rl Zj5 (rl htk ?_);have hm:s∈ins.take m++[e.1]↔s∈ins.take m∨s=e.1:=by rw [mem_append,mem_singleton]
  by_cases h:s=e.1
  ·refine rl (if_pos h) (rl (if_pos (hm.mpr (.inr h))) ?_);have:=(hi e he).2.2;lia
  ·refine rl (if_neg h) ?_;have:=T.as s;by_cases h2:s∈ins.take m
   ·refine rl (if_pos (hm.mpr (.inl h2))) ?_;rw [if_pos h2] at this;exact this
   ·refine rl (if_neg (fun z=>(hm.mp z).elim h2 h)) ?_;rw [if_neg h2] at this;exact this
end
end Mine
end
section
namespace Mine
open L10
noncomputable def Zxb:S→List S
 | .for _ _ b=>b
 | _=>[]
noncomputable def Zn0 (ws:List Str) (p:Nat):List Str:=ws++nm3.take p++[S9 "never",S9 "yet"]
theorem Zuv {ws:List Str} {p:Nat} (h:∀ s∈ws,isNm s=true):∀ s∈Zn0 ws p,isNm s=true:=fun s hs=>by
 rcases mem_append.mp hs with hs | hs
 ·rcases mem_append.mp hs with hs | hs
  ·exact h s hs
  ·exact (show ∀ s∈nm3,isNm s=true by decide +kernel) s (mem_of_mem_take hs)
 ·exact (show ∀ s∈[S9 "never",S9 "yet"],isNm s=true by decide +kernel) s hs
theorem Zyg {own:Str} {ws:List Str} {p:Nat} {ps:List (Str×Int)} {ns ins:List Str} {last:Int} (h:∀ s∈ws,isNm s=true) (r:Rk own (Zn0 ws p) ps ns ins last):Zz6 Zcl own ps [(till,sumL ps)] ns last:=by
 have sb:=Zx0 (m:=20) fun e he=>(r.pm e he).2;have:=r.pl;exact ⟨⟨r.pk,fun e he=>⟨(r.pm e he).1,(r.pm e he).2.1,Int.le_trans (r.pm e he).2.2 (by decide)⟩,r.pl.1,le_trans r.pl.2 (by decide)⟩,⟨nodup_cons.mpr ⟨not_mem_nil,nodup_nil⟩,(fun e he=>by refine rl (mem_singleton.mp he) ?_;exact ⟨.head _,show 1≤sumL ps by lia,show sumL ps≤_ by lia⟩),show 1≤1∧1≤8 by decide⟩,(add_zero (sumL ps)).symm,r.nn,fun s hs=>Zuv h s (r.nw s hs),r.nl,r.la⟩
inductive As (H:Zaa) (b:Addr) (V:VV) (ks:List (Str×List (Str×Int))) (p k:Nat) (P0:List Pc) (x0:Pc) (ins:List Str) (m:Nat) (V':VV) (H':Zaa):Prop
 | mk (p10:Option AV) (B:Bk) (hV:V'=V.set 10 p10) (hK:Kb b H H') (hb:H' b=some (.book B)) (T:Tm ks p k P0 x0 ins m B)
section
variable {c:Cx} (G:Gd c L10.P) {n:Nat} {Q:AV→Zaa→Prop} {QN:VV→Zaa→Prop} {EE:String→VV→Zaa→Prop} {H:Zaa} {sp b wd pl pa:Addr} {B:Bk} {mm:Int} {p k:Nat} {ns:List Int} {ws:List Str} {rs:List R10} {ks:List (Str×List (Str×Int))} {p6 p8 p9 p10:Option AV} {s:Str}
include G
theorem Zz5 {t pd ne u:Addr} {last:Int} {p9:Option AV} {P0:List Pc} {x0:Pc} {ins:List Str} {r:Option AV} (hp:p≤3) (hk40:k≤40) (hb:H b=some (.book B)) (T:Tm ks p k P0 x0 ins 0 B) (ho:x0.state = .opn) (hn:x0.name=s) (nms:isNm s=true) (hi:∀ e∈x0.parts,e.1∈Zcl∧1≤e.2∧e.2≤20) (pk:(x0.parts.map (·.1)).Nodup) (hsub:ins.Sublist (x0.parts.map (·.1)))
  (ht:H t=some (.list [.ref pd,.ref ne,.int last,.ref u,.str (S9 "open")])) (hu:H u=some (.list (txs ins))) (hw:H wd=some (.list (txs ws))) (hk:ws[k]? = some s) (wl:ws.length≤100) {K:VV→Zaa→Prop}
  (q:∀ H' B' p10,Kb b H H'→H' b=some (.book B')→Tm ks p k P0 x0 ins ins.length B'→K (Vt sp b mm wd pl pa p6 (some (.int k)) (some (.ref t)) p9 p10) H') :
  wpS ⟨c,n+4,true⟩ (.for (.var 10) (.sub (.var 8) (.lit (.int 3))) [.expr (.meth (.var 1) "set_aside" [(.var 10),(.sub (.var 3) (.var 7))])]) K Q EE (Vt sp b mm wd pl pa p6 (some (.int k)) (some (.ref t)) p9 r) H:=by
 have hM:c.P.meths=BK.meths:=by refine rl G.hP ?_;rfl
 have lb:∀ {a l},H a=some (.list l)→a≠b:=fun h e=>by rw [e,hb] at h;cases h
 refine ⟨rfl,?_⟩;refine Ze6 ht rfl (show 5≤1000 by decide) ?_;refine Zdb (xs:=txs ins) (by simp only [Zal,hu]) (As H b (Vt sp b mm wd pl pa p6 (some (.int k)) (some (.ref t)) p9 r) ks p k P0 x0 ins) ⟨r,B,rfl,.refl,hb,T⟩ ?_;rintro J hJ m V' H' ⟨q10,B',rfl,hK,hb',T'⟩;refine ⟨(hK _ _ (lb hu) hu).trans hu.symm,fun hm=>?_,fun v hv=>⟨show 10<11 by decide,?_⟩⟩
 ·rw [Zaf] at hm;exact q H' B' q10 hK hb' (hm▸T')
 unfold txs at hv;rw [getElem?_map,map_eq_some_iff] at hv;obtain ⟨a,ha,rfl⟩:=hv;obtain ⟨B2,e2,T2⟩:=T'.step hp hk40 ho ha hi pk hsub;have hpa:=(hi _ (mem_map.mp (hsub.subset (mem_of_getElem? ha))).choose_spec.1).1;rw [(mem_map.mp (hsub.subset (mem_of_getElem? ha))).choose_spec.2] at hpa;show wpSs _ _ _ _ _ (Vt sp b mm wd pl pa p6 (some (.int k)) (some (.ref t)) p9 (some (.str a))) _;dsimp only [Zaw,Zby,Zax];refine Zcu hM (by decide) (by decide) hb' rfl ?_;dsimp only [Zae,Zag,Zav,Zad];refine Ze6 (hK _ _ (lb hw) hw) (Zio hk) (by refine rl Zaf ?_;exact le_trans wl (by decide)) ?_;refine Zsb (n:=n) G U10 rfl rfl hb' (Kv.nm (Zdc _ hpa)).kn (Kv.nm nms).kn T'.I.ok ?_;refine rl hn.symm (rl e2 ?_);exact hJ _ _ _ ⟨some (.str a),B2,rfl,hK.trans .up,Zac,T2⟩
theorem Zxw (hp:p≤3) (hs:H sp=some (.script ns)) (hl:ns.length<2 ^ 62) (hw:H wd=some (.list (txs ws))) (hpl:H pl=some (.list (txs (nm3.take p)))) (wl:ws.length≤40) (wn:∀ s∈ws,isNm s=true) (wd':ws.Nodup) (w3:∀ s∈ws,s ∉ nm3) (hk:ws[k]? = some s) (hb:H b=some (.book B)) (M:Mir10 H pa rs B.pacts) (T:Tb ks p k ws B)
  (q:∀ H' p8 p9 p10 rs' ks' B',K2 b pa H H'→H' b=some (.book B')→Mir10 H' pa rs' B'.pacts→Tb ks' p (k+1) ws B'→(∀ u∈lsOf rs',u∈lsOf rs∨H u=none)→QN (Vt sp b mm wd pl pa p6 (some (.int k)) p8 p9 p10) H') :
  wpSs ⟨c,n+4,true⟩ (Zxb (L10.f__law_pacts.body.getD 8 .pass)) QN Q EE (Vt sp b mm wd pl pa p6 (some (.int k)) p8 p9 p10) H:=by
 have hM:c.P.meths=BK.meths:=by refine rl G.hP ?_;rfl
 have hkl:=(gsi hk).1;have hsw:=mem_of_getElem? hk;have nms:=wn s hsw;have p3:(nm3.take p).length=p:=by refine rl length_take ?_;exact min_eq_left hp
 have hX:B.pacts.length≤43:=by
  have:=congrArg List.length T.nm;rw [length_map,length_append,p3,length_take] at this;lia
 have hnot:pAt B.pacts s=none:=by
  cases e:pAt B.pacts s with
  | none=>rfl
  | some e' =>
   have g:=Zbi (j:=e'.1) (q:=e'.2) e;have z:s∈nm3.take p++ws.take k:=by refine rl T.nm.symm (rl g.2.symm ?_);exact mem_map_of_mem (mem_of_getElem? g.1)
   rcases mem_append.mp z with z | z
   ·exact absurd (mem_of_mem_take z) (w3 s hsw)
   ·have:=Zb4 hk▸wd'.sublist (take_sublist (k+1) ws);exact absurd rfl ((nodup_append.mp this).2.2 _ z _ (.head _))
 refine w_st fun K nx=>?_;dsimp only [Zam,tv,length_cons,length_nil,Nat.reduceAdd,set_cons_succ,set_cons_zero,Zan,Zae,Zag,Zar,Zau,Zai,Zad,getElem?_cons_succ,v_0,Zav,Zbx,ne_eq,Zcv];refine ⟨by decide,?_⟩;refine Zer (n:=n+3) G rfl (add_nonneg (by decide) (Za8 (by decide))) hs hl (Zg2 (n:=n+3) G rfl ?_);refine Ze6 hw (Zio hk) (by refine rl Zaf ?_;exact le_trans wl (by decide)) ?_;refine Zes hw hpl (by refine rl Zaf (rl Zaf (rl p3 ?_));lia) fun z1 hz1=>?_;have E1:=Ext.refl.new (o:=.list (txs ws++txs (nm3.take p))) hz1;have h1:up H z1 (.list (txs ws++txs (nm3.take p))) z1=some (.list (txs ws++txs (nm3.take p))):=Zac;generalize up H z1 (.list (txs ws++txs (nm3.take p)))=H1 at E1 h1;intro z2 hz2;have E2:=Ext.refl.new (o:=.list [.str (ofString "never"),.str (ofString "yet")]) hz2;have h2:up H1 z2 (.list [.str (ofString "never"),.str (ofString "yet")]) z2=some (.list [.str (ofString "never"),.str (ofString "yet")]):=Zac;generalize up H1 z2 (.list [.str (ofString "never"),.str (ofString "yet")])=H2 at E2 h2;refine Zes (E2 _ _ h1) h2 (by refine rl length_append (rl Zaf (rl Zaf (rl p3 ?_)));show _+_+2≤1000;lia) fun z3 hz3=>?_;have E3:=(E1.trans E2).new (o:=.list (txs ws++txs (nm3.take p)++[.str (ofString "never"),.str (ofString "yet")])) hz3;have h3:up H2 z3 (.list (txs ws++txs (nm3.take p)++[.str (ofString "never"),.str (ofString "yet")])) z3=some (.list (txs (Zn0 ws p))):=by
  refine rl Zac ?_;unfold Zn0 txs;refine rl map_append (rl map_append ?_);rfl
 generalize up H2 z3 (.list (txs ws++txs (nm3.take p)++[.str (ofString "never"),.str (ofString "yet")]))=H3 at E3 h3;have wlen:(Zn0 ws p).length=ws.length+p+2:=by unfold Zn0;refine rl length_append (rl length_append (rl p3 ?_));rfl
 refine Zod (n:=n+3) G h3 (by refine rl wlen ?_;lia) (by refine rl wlen ?_;lia) fun t pd ne u ps nl ins last H4 E4 ht0 hd0 hn0 hu0 ht4 hd4 hn4 hu4 rk=>⟨show 8<11 by decide,nx _ _ ?_⟩
 have ht0:=E3.none ht0;have hd0:=E3.none hd0;have hn0:=E3.none hn0;have hu0:=E3.none hu0;have EH:=E3.trans E4;clear hz1 E1 h1 hz2 E2 h2 hz3 E3 h3 E4;show wpSs _ _ _ _ _ (Vt sp b mm wd pl pa p6 (some (.int k)) (some (.ref t)) p9 p10) _;obtain ⟨ed,hd4⟩:=hd4;refine w_st fun K nx=>?_;refine Zsw rfl (fun Q' h=>by dsimp only [Zav,Zad,Zai];show wsub (.ref t) (.int (0:Nat)) _ _;exact Ze6 ht4 rfl (show 5≤1000 by decide) h) ⟨ed,hd4⟩ fun H5 E5=>⟨show 9<11 by decide,nx _ _ ?_⟩
 have EH5:=EH.trans E5;have hb5:=EH5 _ _ hb;have ht5:=E5 _ _ ht4;have rok:=Zyg wn rk;have I:=T.P.I;have tq:=Zsu rok I.fk Zdc nms hnot (Zvh T.nf) T.day;have kps:∀ e∈ps,Kv (.str e.1):=fun e he=>.nm (Zdc _ (rk.pm e he).1);have wn10:=Zuv (p:=p) wn;refine w_st fun K nx=>?_;dsimp only [Zax];refine Zxy (n:=n) (v:=.str s) (pL:=P2 ps) (gL:=P2 [(till,sumL ps)]) (nL:=txs nl) (last:=.int last) G hb5 I.ok rfl (fun Q' E' Hx Ex h=>?_) (fun Q' E' Hx Ex h=>?_) (lay1 Zfx (Zsp rfl) (.nm (Zdc _ (.head _))) .int) (fun Q' E' Hx Ex h=>?_) (fun Q' E' Hx Ex h=>?_) (.nm nms) .int (fun v hv=>?_) (by refine rl Zvq ?_;exact le_trans rk.pl.2 (by decide)) (show 1≤1000 by decide) (by refine rl Zaf ?_;exact le_trans rk.nl (by decide)) fun H6 E6=>?_
 ·dsimp only [Zav,Zad];exact Ze6 (Ex _ _ (EH5 _ _ hw)) (Zio hk) (by refine rl Zaf ?_;exact le_trans wl (by decide)) h
 ·refine Zor rfl (fun Q2 h2=>?_) (Ex _ _ (E5 _ _ hd4)) (le_trans rk.pl.2 (by decide)) kps fun z ts H' e hz hp=>h H' z ts e hz hp;exact Ze6 (Ex _ _ ht5) rfl (show 5≤1000 by decide) h2
 ·dsimp only [Zak,Zae,Zag,Zav,Zad,Zai];refine Ze6 (Ex _ _ ht5) rfl (show 5≤1000 by decide) ?_;exact Zf9 (Ex _ _ (E5 _ _ hn4)) (le_trans rk.nl (by decide)) fun z hz=>h _ z (Ext.refl.new hz) Zac
 ·dsimp only [Zav,Zad,Zai];exact Ze6 (Ex _ _ ht5) rfl (show 5≤1000 by decide) h
 ·obtain ⟨a,ha,rfl⟩:=mem_map.mp hv;exact .nm (wn10 a (rk.nw a ha))
 refine rl tq ?_;refine nx _ _ ?_;obtain ⟨_,_,_,_,I1⟩:=I.tell (lt_of_le_of_lt hX (by decide)) tq;have k6:Kb b H (up H6 b (.book { B with pacts:=B.pacts++[⟨s,ps,[(till,sumL ps)],nl,last,.opn,[]⟩] })):=(Kb.ext (EH5.trans E6)).trans .up;have b6:up H6 b (.book { B with pacts:=B.pacts++[⟨s,ps,[(till,sumL ps)],nl,last,.opn,[]⟩] }) b=some (.book { B with pacts:=B.pacts++[⟨s,ps,[(till,sumL ps)],nl,last,.opn,[]⟩] }):=Zac;have l6:∀ {a o},o.isB=false→H5 a=some o→up H6 b (.book { B with pacts:=B.pacts++[⟨s,ps,[(till,sumL ps)],nl,last,.opn,[]⟩] }) a=some o:=fun {a o} ho h=>Kp.up (E6 _ _ hb5) a o ho (E6 _ _ h);generalize up H6 b (.book { B with pacts:=B.pacts++[⟨s,ps,[(till,sumL ps)],nl,last,.opn,[]⟩] })=H7 at k6 b6 l6;obtain ⟨pf,hpf⟩:=rk.ii;have hsub:ins.Sublist (ps.map (·.1)):=hpf▸filter_sublist;have T0:Tm _ p k B.pacts ⟨s,ps,[(till,sumL ps)],nl,last,.opn,[]⟩ ins 0 { B with pacts:=B.pacts++[⟨s,ps,[(till,sumL ps)],nl,last,.opn,[]⟩] }:=⟨rfl,I1,fun a ha=>by have:=T.P.fr a ha;rw [T.dn] at this;exact this,T.day,fun a=>by refine rl (take_zero ..) (rl (if_neg not_mem_nil ..) (rl (add_zero ..) ?_));exact T.as a⟩
 refine w_st fun K nx=>?_;refine Zz5 (n:=n) G hp (by lia) b6 T0 rfl rfl nms rk.pm rk.pk hsub (l6 rfl ht5) (l6 rfl (E5 _ _ hu4)) (l6 rfl (EH5 _ _ hw)) hk (le_trans wl (by decide)) fun H8 B8 q10 k8 b8 T8=>nx _ _ ?_;have kH8:=k6.trans k8;have M8:Mir10 H8 pa rs B.pacts:=M.kp (.kb hb kH8);obtain ⟨ep8,hp8⟩:=M8.p;have nb:∀ {a o},o.isB=false→H7 a=some o→a≠b:=fun ho h e=>by rw [e,b6] at h;obtain rfl:=osi h;contradiction
 have l8:∀ {a o},o.isB=false→H5 a=some o→H8 a=some o:=fun ho h=>k8 _ _ (nb ho (l6 ho h)) (l6 ho h);have ht8:=l8 rfl ht5;have hd8:=l8 rfl (E5 _ _ hd4);have hn8:=l8 rfl (E5 _ _ hn4);have hu8:=l8 rfl (E5 _ _ hu4);obtain ⟨_,hpH⟩:=M.p;have dpa:pd≠pa:=(Zh0 hpH hd0).symm;have bpa:b≠pa:=fun e=>by rw [e,hpH] at hb;cases hb
 refine Zp0 (d:=pa) (k:=s) (fun _ h=>h) (fun Q' h=>by dsimp only [Zav,Zad];show wsub (.ref wd) (.int k) _ _;exact Ze6 (l8 rfl (EH5 _ _ hw)) (Zio hk) (by refine rl Zaf ?_;exact le_trans wl (by decide)) h) hp8 (by have:=congrArg List.length (Zrs M8.len);rw [length_map,length_map] at this;refine rl this ?_;exact le_trans hX (by decide)) fun ep'=>?_;have kp9:∀ a o,a≠pa→H8 a=some o→up H8 pa (.dict ep' (putS (dP B.pacts (rs.map (·.t))) s (.ref t))) a=some o:=fun a o h e=>by refine rl (Zab h) ?_;exact e
 have nl':∀ {a l},H8 a=some (.list l)→a≠pa:=fun h e=>by rw [e,hp8] at h;cases h
 have hti:ins.take ins.length=ins:=take_length;have hpc:=T8.pc;rw [hti] at hpc;have M9:Mir10 (up H8 pa (.dict ep' (putS (dP B.pacts (rs.map (·.t))) s (.ref t)))) pa (rs++[⟨t,pd,ne,u⟩]) B8.pacts:=by
  refine rl hpc ?_;refine M8.add (x:=⟨s,ps,[(till,sumL ps)],nl,last,.opn,ins⟩) (r:=⟨t,pd,ne,u⟩) hnot Zac ⟨kp9 _ _ (nl' ht8) ht8,⟨ed,kp9 _ _ dpa hd8⟩,kp9 _ _ (nl' hn8) hn8,kp9 _ _ (nl' hu8) hu8⟩ dpa (Zrj M ht0) kp9
 refine q _ _ _ _ _ _ B8 ((K2.kb kH8).trans .two) (kp9 _ _ bpa b8) M9 ⟨⟨T8.I,?_,?_⟩,?_,T8.day,?_,?_,?_⟩ ?_
 ·intro a ha;have:=T8.fr a ha;refine rl hpc (rl Zgj (rl length_append (rl T.dn ?_)));exact this
 ·intro x hx;rw [hpc] at hx;rcases mem_append.mp hx with hx | hx
  ·exact T.P.il x hx
  ·refine rl (mem_singleton.mp hx) ?_;exact Zzf hsub rk.pk
 ·intro x hx;rw [hpc] at hx;rcases mem_append.mp hx with hx | hx
  ·exact T.nf x hx
  ·refine rl (mem_singleton.mp hx) ?_;intro z;contradiction
 ·refine rl (hpc ..) (rl (map_append ..) (rl (T.nm ..) (rl (Zb4 hk ..) (rl (append_assoc ..) ?_))));rfl
 ·refine rl hpc (rl Zgj (rl length_append (rl T.dn ?_)));rfl
 ·intro a;have:=T8.as a;split at this<;>lia
 ·intro w hw;rcases Zqw hw with h | rfl | rfl | rfl
  ·exact .inl h
  ·exact .inr ht0
  ·exact .inr hn0
  ·exact .inr hu0
end
end Mine
end
section
namespace Mine
open L10
inductive Pl (H0 H:Zaa) (sp b:Addr) (mm:Int) (wd pl pa:Addr) (p6:Option AV) (p:Nat) (ws:List Str) (k:Nat) (V':VV) (H':Zaa):Prop
 | mk (p7 p8 p9 p10:Option AV) (B:Bk) (rs:List R10) (ks:List (Str×List (Str×Int))) (hV:V'=Vt sp b mm wd pl pa p6 p7 p8 p9 p10) (hK:K2 b pa H H') (hb:H' b=some (.book B)) (M:Mir10 H' pa rs B.pacts) (T:Tb ks p k ws B) (fr:∀ u∈lsOf rs,H0 u=none)
theorem tb0 {p:Nat} {ws:List Str} (hp:p≤3):∃ ks,Tb ks p 0 ws (bD p):=by
 obtain ⟨ks,P⟩:=p10D hp;obtain ⟨d1,d2,d3⟩:=Zqa (i:=p);refine ⟨ks,P,fun x hx=>by refine rl (d3 x hx ..) ?_;intro z;contradiction,rfl,by refine rl (take_zero ..) (rl (append_nil ..) ?_);exact d2,?_,fun s=>?_⟩
 ·show (Zc6 (pD p)).length=p;refine rl d1 (rl length_take ?_);exact min_eq_left hp
 ·show vl [(till,0),(quay,0)] s≤20*0;refine rl Zfw (rl Zfw ?_);split
  ·decide
  ·split
   ·decide
   ·exact Int.le_refl 0
theorem Tb.bo {ks:List (Str×List (Str×Int))} {p k:Nat} {ws:List Str} {B:Bk} (T:Tb ks p k ws B):Bo ks 10000 B:=⟨T.P.I,T.P.fr,fun x _ _ k _=>Zvh T.nf k,T.P.il⟩
def PaQ (H:Zaa) (b:Addr) (Q:AV→Zaa→Prop):Prop:=∀ H' pa rs ks B,Kb b H H'→H pa=none→H' b=some (.book B)→Mir10 H' pa rs B.pacts→Bo ks 10000 B→B.day=0→B.pacts.length≤43→(∀ u∈lsOf rs,H u=none)→Q (.ref pa) H'
theorem PaQ.ext {H H':Zaa} {b:Addr} {Q:AV→Zaa→Prop} (q:PaQ H b Q) (e:Ext H H'):PaQ H' b Q:=fun H2 pa rs ks B h1 h2 h3 h4 h5 h6 h7 h8=>q H2 pa rs ks B ((Kb.ext e).trans h1) (e.none h2) h3 h4 h5 h6 h7 fun u hu=>e.none (h8 u hu)
section
variable {c:Cx} (G:Gd c L10.P) {n:Nat} {Q:AV→Zaa→Prop} {E:String→Zaa→Prop} {H:Zaa} {sp b:Addr} {ns:List Int} {m:Nat}
include G
theorem Zyj (hs:H sp=some (.script ns)) (hl:ns.length≤63) (hb:H b=some (.book (bO 0))) (m2:2≤m) (m40:m≤39) (q:PaQ H b Q):wpSs ⟨c,n+4,true⟩ (L10.f__law_pacts.body.drop 3) (fun _ H=>Q .none H) Q (fun cl _ H=>E cl H) [some (.ref sp),some (.ref b),some (.int m),none,none,none,none,none,none,none,none] H:=by
 have hl2:ns.length<2 ^ 62:=by lia
 refine w_st fun K nx=>?_;refine Zsh (n:=n+2) (nm:="_law_told") (i:=1) (x:=11) (m:=m) G rfl rfl rfl (by decide) (by lia) rfl rfl hs hl (fun Q E h=>h) fun H1 wd E1 hw1=>⟨show 3<11 by decide,nx _ _ ?_⟩
 have wn:=Zsi (cl:=cell ns (1:Int).toNat) (m:=m);have wd':=Zsj (cl:=cell ns (1:Int).toNat) (m:=m) (by lia);have w3:=Zsk (cl:=cell ns (1:Int).toNat) (m:=m) (by lia);have wl:=Zo8 (cl:=cell ns (1:Int).toNat) (m:=m);generalize Zei (cell ns (1:Int).toNat) m=ws at hw1 wn wd' w3 wl;refine w_st fun K nx=>?_;dsimp only [Zam,Zap,Zbn,Zbk,Zau,Zae,Zag,Zai];intro l3 hl3;have E2:=Ext.refl.new (o:=.list [.str (ofString "one"),.str (ofString "two"),.str (ofString "three")]) hl3;have h2:up H1 l3 (.list [.str (ofString "one"),.str (ofString "two"),.str (ofString "three")]) l3=some (.list (txs nm3)):=Zac;generalize up H1 l3 (.list [.str (ofString "one"),.str (ofString "two"),.str (ofString "three")])=H2 at E2 h2;dsimp only [set_cons_succ,set_cons_zero,tv,length_cons,length_nil,Nat.reduceAdd,Zar,Zai,Zan,Zae,Zag,Zad,v_0];refine Zer (n:=n+3) G rfl (by decide) ((E1.trans E2) _ _ hs) hl2 ⟨by decide,?_⟩;have r0:=Za8 (x:=cell ns (1:Int).toNat) (m:=4) (by decide);have r1:=Zbj (x:=cell ns (1:Int).toNat) (m:=4) (by decide);obtain ⟨p,hp⟩:=Int.eq_ofNat_of_zero_le r0;rw [hp] at r1 ⊢;have hp3:p≤3:=by lia
 refine Zc2 (l:=none) (u:=some (p:Int)) (t:=none) h2 rfl rfl rfl (fun e=>by contradiction) (by decide) fun pl H3 E3 _ hpl=>⟨show 4<11 by decide,nx _ _ ?_⟩
 rw [Zje] at hpl;have EH3:=(E1.trans E2).trans E3;refine w_st fun K nx=>?_;intro pa hpa;refine ⟨show 5<11 by decide,nx _ _ ?_⟩;have E4:=Ext.refl.new (o:=.dict 0 []) hpa;have p4:up H3 pa (.dict 0 []) pa=some (.dict 0 []):=Zac;have hpa0:=EH3.none hpa;generalize up H3 pa (.dict 0 [])=H4 at E4 p4;have EH4:=EH3.trans E4;refine Zwf (n:=n) G hp3 (EH4 _ _ hb) (E4 _ _ hpl) p4 fun H5 rs5 p6 k5 b5 M5 f5=>?_;have spb:∀ {a o},a≠b→a≠pa→H4 a=some o→H5 a=some o:=fun h1 h2 h=>k5 _ _ h1 h2 h;have nb:∀ {a o},o.isB=false→H4 a=some o→a≠b:=fun ho h e=>by rw [e,EH4 _ _ hb] at h;obtain rfl:=osi h;contradiction
 have ne:∀ {a o},o.isD=false→H4 a=some o→a≠pa:=fun ho h e=>by rw [e,p4] at h;obtain rfl:=osi h;contradiction
 have hs5:=spb (nb rfl (EH4 _ _ hs)) (ne rfl (EH4 _ _ hs)) (EH4 _ _ hs);have hw4:=((E2.trans E3).trans E4) _ _ hw1;have hw5:=spb (nb rfl hw4) (ne rfl hw4) hw4;have hpl4:=E4 _ _ hpl;have hpl5:=spb (nb rfl hpl4) (ne rfl hpl4) hpl4;have kH5:∀ {a o},a≠b→H a=some o→H5 a=some o:=fun h1 h=>k5 _ _ h1 (Zh0 h hpa0) (EH4 _ _ h);obtain ⟨ks0,T0⟩:=tb0 (ws:=ws) hp3;refine w_st fun K nx=>?_;dsimp only [Zb3,Zak,Zae,Zag,Zad];refine ⟨rfl,?_⟩;show Zc1 _ .range [.int (m:Int)] _ _;refine Ztm (natCast_nonneg m) (by lia) fun zr H6 hzr E6 hz=>?_;have hs6:=E6 _ _ hs5;have hw6:=E6 _ _ hw5;have hpl6:=E6 _ _ hpl5;have b6:=E6 _ _ b5;have M6:=M5.kp (.ext E6);obtain ⟨e6,p6'⟩:=M6.p;have nb6:∀ {a o},o.isB=false→H6 a=some o→a≠b:=fun ho h e=>by rw [e,b6] at h;obtain rfl:=osi h;contradiction
 have ne6:∀ {a o},o.isD=false→H6 a=some o→a≠pa:=fun ho h e=>by rw [e,p6'] at h;obtain rfl:=osi h;contradiction
 have kH6:∀ {a o},a≠b→H a=some o→H6 a=some o:=fun h1 h=>E6 _ _ (kH5 h1 h);clear kH5 spb nb ne hs5 hw5 hpl5 hw4 hpl4 k5;refine Zvw hz (Pl H H6 sp b m wd pl pa p6 p ws) ⟨_,_,_,_,bD p,rs5,ks0,rfl,fun _ _ _ _ h=>h,b6,M6,T0,fun u hu=>EH4.none (f5 u hu)⟩ ?_;rintro J hJ k V' H' ⟨p7,p8,p9,p10,B,rs,ks,rfl,hK,hb',M',T',fr⟩;refine ⟨hK _ _ (nb6 rfl hz) (ne6 rfl hz) hz,fun hk=>nx _ _ ?_,fun hk=>⟨show 7<11 by decide,?_⟩⟩
 ·dsimp only [Zaw,Zbq,Zad];have hX:B.pacts.length≤43:=by
   have:=congrArg List.length T'.nm;rw [length_map,length_append,length_take,length_take] at this;lia
  refine q H' pa rs ks B (fun a o h1 h=>hK _ _ h1 (Zh0 h hpa0) (kH6 h1 h)) hpa0 hb' M' T'.bo T'.day hX fr
 have hk:k<m:=hk;have hkw:ws[k]? = some (ws[k]'(by refine rl wl ?_;exact hk)):=getElem?_eq_getElem _;refine Zxw (n:=n) G hp3 (hK _ _ (nb6 rfl hs6) (ne6 rfl hs6) hs6) hl2 (hK _ _ (nb6 rfl hw6) (ne6 rfl hw6) hw6) (hK _ _ (nb6 rfl hpl6) (ne6 rfl hpl6) hpl6) (by lia) wn wd' w3 hkw hb' M' T' fun H7 q8 q9 q10 rs7 ks7 B7 k7 b7 M7 T7 f7=>?_;refine hJ _ _ _ ⟨_,_,_,_,B7,rs7,ks7,rfl,hK.trans k7,b7,M7,T7,fun u hu=>?_⟩;rcases f7 u hu with h | h
 ·exact fr u h
 ·cases e:H u with
  | none=>rfl
  | some o =>
   have ub:u≠b:=fun z=>by rw [z,hb'] at h;contradiction
   rw [hK _ _ ub (Zh0 e hpa0) (kH6 ub e)] at h;contradiction
theorem Zm7 (hs:H sp=some (.script ns)) (hl:ns.length≤63) (hb:H b=some (.book (bO 0))) (q:PaQ H b Q):CallOK c (n+5) true "_law_pacts" [.ref sp,.ref b] Q E H:=by
 refine G.call (F:=L10.f__law_pacts) rfl rfl ?_;have hl2:ns.length<2 ^ 62:=by lia
 have nat:∀ {x:Int} {a b:Nat},(a:Int)≤x→x≤b→∃ m:Nat,x=m∧a≤m∧m≤b:=fun {x a b} h1 h2=>⟨x.toNat,by lia,by lia,by lia⟩
 have b5:=Za8 (x:=cell ns (0:Int).toNat) (m:=5) (by decide);have c5:=Zbj (x:=cell ns (0:Int).toNat) (m:=5) (by decide);have d5:=Za8 (x:=(cell ns (0:Int).toNat).fdiv 30) (m:=5) (by decide);have e5:=Zbj (x:=(cell ns (0:Int).toNat).fdiv 30) (m:=5) (by decide);have f5:=Za8 (x:=(cell ns (0:Int).toNat).fdiv 60) (m:=20) (by decide);have g5:=Zbj (x:=(cell ns (0:Int).toNat).fdiv 60) (m:=20) (by decide);have fin:∀ {x:Int},2≤x→x≤39→wpSs ⟨c,n+4,true⟩ (L10.f__law_pacts.body.drop 3) (fun _ H=>Q .none H) Q (fun cl _ H=>E cl H) [some (.ref sp),some (.ref b),some (.int x),none,none,none,none,none,none,none,none] H:=fun {x} h1 h2=>by
  obtain ⟨m,rfl,m1,m2⟩:=nat (a:=2) (b:=39) h1 h2;exact Zyj G hs hl hb m1 m2 q
 have two:∀ {x:Int},2≤x→x≤39→wpSs ⟨c,n+4,true⟩ (L10.f__law_pacts.body.drop 2) (fun _ H=>Q .none H) Q (fun cl _ H=>E cl H) [some (.ref sp),some (.ref b),some (.int x),none,none,none,none,none,none,none,none] H:=fun {x} h1 h2=>by
  refine w_st fun K nx=>?_;dsimp only [Zay,Zao,Zai,Zar,Zan,Zae,Zag,Zad,v_0];refine Zer (n:=n+3) G rfl (by decide) hs hl2 ⟨by decide,by decide,?_⟩;dsimp only [c_eq,Zaj];split
  ·dsimp only [Zaw,Zby,Zam];refine Zer (n:=n+3) G rfl (by decide) hs hl2 ⟨by decide,by decide,?_⟩;exact ⟨show 2<11 by decide,nx _ _ (fin (by lia) (by lia))⟩
  ·exact nx _ _ (fin h1 h2)
 refine w_st fun K nx=>?_;dsimp only [Zam];refine Zer (n:=n+3) G rfl (by decide) hs hl2 ⟨by decide,?_⟩;refine ⟨show 2<11 by decide,nx _ _ ?_⟩;refine w_st fun K nx=>?_;dsimp only [Zay,Int.toNat_zero,Zao,Zai,Zar,Zan,Zae,Zag,Zad];refine Zer (n:=n+3) G rfl (by decide) hs hl2 ⟨by decide,by decide,?_⟩;dsimp only [c_eq,Zaj];split
 ·dsimp only [Zaw,Zby,Zam];refine Zer (n:=n+3) G rfl (by decide) hs hl2 ⟨by decide,by decide,?_⟩;exact ⟨show 2<11 by decide,nx _ _ (two (by lia) (by lia))⟩
 ·exact nx _ _ (two (by lia) (by lia))
end
end Mine
end
section
namespace Mine
open L10
abbrev Vl (sp b b2 pa pk ha:Addr) (p3 p4 p7:Option AV) (d:Int) (p10 p11 p12 p13 p14 p15:Option AV):VV:=[some (.ref sp),some (.ref b),some (.ref b2),p3,p4,some (.ref pa),some (.ref pk),p7,some (.int d),some (.ref ha),p10,p11,p12,p13,p14,p15]
theorem Zvn {L:List Str} {x:Pc}:(fl1 L x).end .fln=x.end .fln:=by unfold fl1;split<;>rfl
structure Fw (H:Zaa) (pa:Addr) (rs:List R10) (X:List Pc) (H':Zaa) (rs':List R10) (X':List Pc):Prop where
 M:Mir10 H' pa rs' X'
 t:rs'.map (·.t)=rs.map (·.t)
 u:∀ u∈lsOf rs',u∈lsOf rs∨H u=none
 k:∀ a o,a ∉ rs.map (·.t)→H a=some o→H' a=some o
inductive Fi (V:VV) (H:Zaa) (pa:Addr) (rs:List R10) (X:List Pc) (L:List Str) (i:Nat) (V':VV) (H':Zaa):Prop
 | mk (p15:Option AV) (rs':List R10) (hV:V'=V.set 15 p15) (F:Fw H pa rs X H' rs' (Zef (L.take i) X))
theorem Zrl {X:List Pc}:Zef [] X=X:=map_id _
theorem Zsv {H:Zaa} {pa:Addr} {rs:List R10} {X:List Pc} (M:Mir10 H pa rs X) {a:Addr} (h:a∈rs.map (·.t)):∃ l,H a=some (.list l):=by
 obtain ⟨r,hr,rfl⟩:=mem_map.mp h;obtain ⟨j,hj⟩:=List.getElem?_of_mem hr;obtain ⟨x,hx⟩:∃ x,X[j]? = some x:=⟨X[j]'(M.r.len▸(gsi hj).1),getElem?_eq_getElem _⟩
 obtain ⟨r',hr',row⟩:=M.row hx;rw [hj] at hr';obtain rfl:=osi hr';exact ⟨_,row.t⟩
theorem Fw.step {H H' H2:Zaa} {pa z:Addr} {rs rs':List R10} {X:List Pc} {L:List Str} {j:Nat} {x:Pc} {r:R10} (F:Fw H pa rs X H' rs' (Zef L X)) (M0:Mir10 H pa rs X) (nd:(X.map (·.name)).Nodup) (hx:X[j]? = some x) (hr:rs'[j]? = some r) (hz0:H' z=none) (hz:H2 z=some (.list [])) (ht:H2 r.t=some (.list (rowL { r with u:=z } (x.end .fln)))) (k:∀ a o,a≠r.t→H' a=some o→H2 a=some o):Fw H pa rs X H2 (rs'.set j { r with u:=z }) (Zef (L++[x.name]) X):=by
 have hx':(Zef L X)[j]? = some (fl1 L x):=by unfold Zef;refine rl (getElem?_map) (rl hx ?_);rfl
 have hrt:r.t∈rs.map (·.t):=by refine rl F.t.symm ?_;exact mem_map_of_mem (mem_of_getElem? hr)
 refine ⟨?_,(Zg3 (y:={ r with u:=z }) hr rfl).trans F.t,fun u hu=>?_,fun a o h e=>k a o (fun q=>h (q▸hrt)) (F.k a o h e)⟩
 ·have:=F.M.fall hx' hr hz (by refine rl Zvn ?_;exact ht) k;rw [Zvn,Zk7 nd hx] at this;exact this
 ·obtain ⟨r',hr',h⟩:=mem_flatMap.mp hu;rcases List.mem_or_eq_of_mem_set hr' with h' | rfl
  ·exact F.u u (mem_flatMap.mpr ⟨r',h',h⟩)
  ·have old:u=r.t∨u=r.ne→u∈lsOf rs∨H u=none:=fun e=>F.u u (Zh2 (mem_of_getElem? hr) (e.imp_right .inl));rcases mem_cons.mp h with e | h
   ·exact old (.inl e)
   rcases mem_cons.mp h with e | h
   ·exact old (.inr e)
   ·refine rl (mem_singleton.mp h) ?_;refine .inr ?_;cases e:H z with
    | none=>rfl
    | some o =>
     by_cases q:z∈rs.map (·.t)
     ·obtain ⟨l,hl⟩:=Zsv F.M (F.t▸q);rw [hl] at hz0;contradiction
     ·rw [F.k z o q e] at hz0;contradiction
section
variable {c:Cx} (G:Gd c L10.P) {n:Nat} {Q QR:AV→Zaa→Prop} {K:VV→Zaa→Prop} {EE:String→VV→Zaa→Prop} {H:Zaa} {sp b b2 pa pk ha f:Addr} {p3 p4 p7 p10 p11 p12 p13 p15:Option AV} {d:Int} {rs:List R10} {X:List Pc} {L:List Str} {g:Gx}
theorem Zwn (hmd:g.md=true) (M:Mir10 H pa rs X) (nd:(X.map (·.name)).Nodup) (hf:H f=some (.list (txs L))) (hfu:f ∉ lsOf rs) (hL:∀ k∈L,k∈X.map (·.name))
  (q:∀ H' rs' p15,Fw H pa rs X H' rs' (Zef L X)→K (Vl sp b b2 pa pk ha p3 p4 p7 d p10 p11 p12 p13 (some (.ref f)) p15) H') :
  wpS g (.for (.var 15) (.var 14) [.assign (.sub (.sub (.var 5) (.var 15)) (.lit (.int 3))) (.list []),.assign (.sub (.sub (.var 5) (.var 15)) (.lit (.int 4))) (.lit (.str (ofString "fallen")))]) K QR EE (Vl sp b b2 pa pk ha p3 p4 p7 d p10 p11 p12 p13 (some (.ref f)) p15) H:=by
 dsimp only [Zb3,Zad];refine ⟨hmd,?_⟩;show WFor _ _ (.ref f) _ _;refine Zdb (xs:=txs L) (by simp only [Zal,hf]) (Fi (Vl sp b b2 pa pk ha p3 p4 p7 d p10 p11 p12 p13 (some (.ref f)) p15) H pa rs X L) ⟨p15,rs,rfl,⟨by refine rl take_zero (rl Zrl ?_);exact M,rfl,fun u hu=>.inl hu,fun _ _ _ h=>h⟩⟩ ?_;rintro J hJ i V' H' ⟨q15,rs',rfl,F⟩;have hft:f ∉ rs.map (·.t):=fun z=>by
  obtain ⟨r,hr,e⟩:=mem_map.mp z;exact hfu (Zh2 hr (.inl e.symm))
 refine ⟨(F.k _ _ hft hf).trans hf.symm,fun hi=>?_,fun v hv=>⟨show 15<16 by decide,?_⟩⟩
 ·rw [Zaf] at hi;rw [hi,take_length] at F;exact q H' rs' q15 F
 unfold txs at hv;rw [getElem?_map,map_eq_some_iff] at hv;obtain ⟨s,hs,rfl⟩:=hv;obtain ⟨⟨j,x⟩,hp⟩:=Zga (hL s (mem_of_getElem? hs));obtain ⟨hx,hn⟩:=Zbi hp;have hp':pAt (Zef (L.take i) X) s=some (j,fl1 (L.take i) x):=by refine rl Zkm (rl hp ?_);rfl
 obtain ⟨r,hr,row⟩:=F.M.row (Zbi hp').1;have hlast:(fl1 (L.take i) x).last=x.last:=by unfold fl1;split<;>rfl
 show wpSs _ _ _ _ _ (Vl sp b b2 pa pk ha p3 p4 p7 d p10 p11 p12 p13 (some (.ref f)) (some (.str s))) _;refine w_st fun K1 nx1=>?_;intro z hz;have E1:=Ext.refl.new (o:=.list []) hz;have z1:up H' z (.list []) z=some (.list []):=Zac;have M1:=F.M.kp (.ext E1);have t1:=E1 _ _ row.t;have nrz:z≠r.t:=(Zh0 row.t hz).symm;have k1:∀ a o,H' a=some o→up H' z (.list []) a=some o:=fun a o h=>E1 a o h;generalize up H' z (.list [])=H1 at E1 z1 M1 t1 k1;refine Zlp M1 hp' fun r' hr' row'=>?_;rw [hr] at hr';obtain rfl:=osi hr';show match H1 r.t with | some (.list xs)=>_ | _=>False
 refine rl t1 ?_;refine ⟨by decide,show (3:Int)<5 by decide,show 5<2 ^ 62 by decide,nx1 _ _ ?_⟩;show wpSs _ _ _ _ _ _ (up H1 r.t (.list [.ref r.pd,.ref r.ne,.int (fl1 (L.take i) x).last,.ref z,.str (fl1 (L.take i) x).state.str]));obtain ⟨ep,hp1⟩:=M1.p;have p2:up H1 r.t (.list [.ref r.pd,.ref r.ne,.int (fl1 (L.take i) x).last,.ref z,.str (fl1 (L.take i) x).state.str]) pa=some (.dict ep (dP (Zef (L.take i) X) (rs'.map (·.t)))):=by refine rl (Zab (fun e=>by rw [e,t1] at hp1;cases hp1)) ?_;exact hp1
 have t2:up H1 r.t (.list [.ref r.pd,.ref r.ne,.int (fl1 (L.take i) x).last,.ref z,.str (fl1 (L.take i) x).state.str]) r.t=some (.list [.ref r.pd,.ref r.ne,.int (fl1 (L.take i) x).last,.ref z,.str (fl1 (L.take i) x).state.str]):=Zac;have k2:∀ a o,a≠r.t→H1 a=some o→up H1 r.t (.list [.ref r.pd,.ref r.ne,.int (fl1 (L.take i) x).last,.ref z,.str (fl1 (L.take i) x).state.str]) a=some o:=fun a o h e=>by refine rl (Zab h) ?_;exact e
 generalize up H1 r.t (.list [.ref r.pd,.ref r.ne,.int (fl1 (L.take i) x).last,.ref z,.str (fl1 (L.take i) x).state.str])=H2 at p2 t2 k2;dsimp only [Zaw,Zby,Zam,Zai,tsub,Zav,Zad];show wsub (.ref pa) (.str s) _ _;dsimp only [Ze1];refine rl p2 ?_;refine ⟨.ref r.t,by refine rl (Zj1 F.M.len) (rl hp' ?_);show Option.map AV.ref ((rs'.map (·.t))[j]?)=_;refine rl (getElem?_map) (rl hr ?_);rfl,?_⟩;show match H2 r.t with | some (.list xs)=>_ | _=>False
 refine rl t2 ?_;refine ⟨by decide,show (4:Int)<5 by decide,show 5<2 ^ 62 by decide,?_⟩;have hsn:x.name=s:=hn;refine hJ _ _ _ ⟨some (.str s),rs'.set j { r with u:=z },rfl,?_⟩;refine rl (Zb4 hs) (rl hsn.symm ?_);refine F.step M nd hx hr hz (by refine rl (Zab nrz) ?_;exact k2 _ _ nrz z1) (by refine rl Zac (rl hlast ?_);rfl) fun a o h e=>by refine rl (Zab h) ?_;exact k2 _ _ h (k1 _ _ e)
end
end Mine
end
section
namespace Mine
open L10
def Ks (H H':Zaa):Prop:=∀ a x,x.isD=false→x.isL=false→x.isB=false→H a=some x→H' a=some x
section
variable {H H' H'':Zaa}
theorem Ks.trans (x:Ks H H') (y:Ks H' H''):Ks H H'':=fun a o d l b h=>y a o d l b (x a o d l b h)
theorem Ks.kp (e:Kp H H'):Ks H H':=fun a x _ _ b h=>e a x b h
theorem Ks.ext (e:Ext H H'):Ks H H':=fun a x _ _ _ h=>e a x h
end
inductive Lt (H:Zaa) (b b2 pa pk ha:Addr) (B2:Bk) (rs2:List R10) (N:Nat) (d:Int):Prop
 | mk (B:Bk) (rs:List R10) (ks:List (Str×List (Str×Int))) (hb:H b=some (.book B)) (M:Mir10 H pa rs B.pacts) (O:Bo ks 10000 B) (hX:B.pacts.length≤43) (hd:B.day=d) (Hh:Hl H ha (lsOf rs++lsOf rs2) N) (hb2:H b2=some (.book B2)) (M2:Mir10 H pk rs2 B2.pacts) (dis:∀ u∈lsOf rs,u ∉ lsOf rs2) (bb:b≠b2)
theorem Zpc {H:Zaa} {pa pk:Addr} {rs rs2:List R10} {X X2:List Pc} (M:Mir10 H pa rs X) (M2:Mir10 H pk rs2 X2):∀ u∈lsOf rs++lsOf rs2,H u≠none:=fun u hu=>(mem_append.mp hu).elim (Zh3 M u) (Zh3 M2 u)
theorem Lt.ext {H H':Zaa} {b b2 pa pk ha:Addr} {B2:Bk} {rs2:List R10} {N:Nat} {d:Int} (L:Lt H b b2 pa pk ha B2 rs2 N d) (e:Ext H H'):Lt H' b b2 pa pk ha B2 rs2 N d:=by
 obtain ⟨B,rs,ks,hb,M,O,hX,hd,Hh,hb2,M2,dis,bb⟩:=L;exact ⟨B,rs,ks,e _ _ hb,M.kp (.ext e),O,hX,hd,Hh.kp (.ext e),e _ _ hb2,M2.kp (.ext e),dis,bb⟩
theorem Lt.le {H:Zaa} {b b2 pa pk ha:Addr} {B2:Bk} {rs2:List R10} {N N':Nat} {d:Int} (L:Lt H b b2 pa pk ha B2 rs2 N d) (h:N≤N'):Lt H b b2 pa pk ha B2 rs2 N' d:=by
 obtain ⟨B,rs,ks,hb,M,O,hX,hd,Hh,hb2,M2,dis,bb⟩:=L;exact ⟨B,rs,ks,hb,M,O,hX,hd,Hh.le h,hb2,M2,dis,bb⟩
theorem Zxc {B B':Bk} {L:List Str} (F:Fal B B' L):B'.pacts.length=B.pacts.length:=by refine rl F.p ?_;exact length_map _
section
variable {c:Cx} (G:Gd c L10.P) {n:Nat} {Q:AV→Zaa→Prop} {E:String→Zaa→Prop} {QN:VV→Zaa→Prop} {EE:String→VV→Zaa→Prop} {H:Zaa} {sp b b2 pa pk ha f:Addr} {p3 p4 p7 p10 p11 p12 p15:Option AV} {d tn:Int} {rs rs2:List R10} {B B2 B':Bk} {ks:List (Str×List (Str×Int))} {N:Nat} {L2:List Str}
include G
theorem Zu2 (L:Lt H b b2 pa pk ha B2 rs2 N d) (hN:N+394≤9000) (q:∀ H',Ks H H'→Lt H' b b2 pa pk ha B2 rs2 (N+394) d→Q (.bool true) H'):CallOK c (n+5) true "_law_same" [.ref b,.ref pa,.int tn,.ref ha] Q E H:=by
 obtain ⟨B,rs,ks,hb,M,O,hX,hd,Hh,hb2,M2,dis,bb⟩:=L;obtain ⟨_,hl0⟩:=Hh.at;refine Zpq G hb M O Hh (fun u hu=>mem_append_left _ hu) (Zpc M M2) hN (le_trans hX (by decide)) fun H' kb h'=>q H' (fun a x _ xl _ h=>kb _ _ (fun z=>by rw [z,hl0] at h;obtain rfl:=osi h;contradiction) h) ?_;exact ⟨B,rs,ks,kb _ _ (fun z=>by rw [z,hl0] at hb;cases hb) hb,M.kb (fun z=>Hh.n (mem_append_left _ z)) hl0 kb,O,hX,hd,h',kb _ _ (fun z=>by rw [z,hl0] at hb2;cases hb2) hb2,M2.kb (fun z=>Hh.n (mem_append_right _ z)) hl0 kb,dis,bb⟩
theorem same2 (O2:Bo ks 10000 B2) (hX2:B2.pacts.length≤43) (L:Lt H b b2 pa pk ha B2 rs2 N d) (hN:N+394≤9000) (q:∀ H' us,Hl H' ha us (N+394)→Q (.bool true) H'):CallOK c (n+5) true "_law_same" [.ref b2,.ref pk,.int tn,.ref ha] Q E H:=by
 obtain ⟨B,rs,_,hb,M,O,hX,hd,Hh,hb2,M2,dis,bb⟩:=L;exact Zpq G hb2 M2 O2 Hh (fun u hu=>mem_append_right _ hu) (Zpc M M2) hN (le_trans hX2 (by decide)) fun H' kb h'=>q H' _ h'
theorem Zj8 {H1:Zaa} (hb:H b=some (.book B)) (M:Mir10 H pa rs B.pacts) (O:Bo ks 10000 B) (hX:B.pacts.length≤43) (Hh:Hl H ha (lsOf rs++lsOf rs2) N) (hb2:H b2=some (.book B2)) (M2:Mir10 H pk rs2 B2.pacts) (dis:∀ u∈lsOf rs,u ∉ lsOf rs2) (bb:b≠b2) (hN:N+395≤9000)
  (f0:H f=none) (kb:Kb b H H1) (b1:H1 b=some (.book B')) (f1:H1 f=some (.list (txs L2))) (l2:L2.length≤900) (F:Fal B B' L2) (O':Bo ks 10000 B')
  (q:∀ H' p15,Ks H H'→Lt H' b b2 pa pk ha B2 rs2 (N+395) B'.day→QN (Vl sp b b2 pa pk ha p3 p4 p7 B'.day p10 (some (.int d)) p12 (some (.bool true)) (some (.ref f)) p15) H') :
  wpSs ⟨c,n+5,true⟩ ((Zxb (L10.f_law.body.getD 10 .pass)).drop 2) QN Q EE (Vl sp b b2 pa pk ha p3 p4 p7 B'.day p10 (some (.int d)) p12 (some (.bool true)) (some (.ref f)) p15) H1:=by
 have hus:=Zpc M M2;have hfu:f ∉ lsOf rs++lsOf rs2:=fun z=>hus f z f0;obtain ⟨_,hl0⟩:=Hh.at;have kp:=Kp.kb hb kb;have M1:=M.kp kp;have Hf:Hl H ha (f::(lsOf rs++lsOf rs2)) N:=Hh.chg fun u hu=>(mem_cons.mp hu).elim (fun e=>.inr (e▸f0)) .inl;have H1f:=Hf.kp kp;refine w_st fun K nx=>?_;dsimp only [Zay,Za6,Zad];show Zbb (.bool true) H1 _;dsimp only [Zaj];refine Eq.mpr (if_neg (by decide)) (nx _ _ ?_);refine w_st fun K nx=>?_;refine Zwn rfl M1 O.I.nm f1 (fun z=>hfu (mem_append_left _ z)) F.m fun H2 rs' q15 W=>nx _ _ ?_;have hp':Zef L2 B.pacts=B'.pacts:=F.p.symm;have M2':=W.M;rw [hp'] at M2';have nt:∀ {a o},o.isL=false→H1 a=some o→a ∉ rs.map (·.t):=fun ho h z=>by
  obtain ⟨l,hl⟩:=Zsv M1 z;rw [hl] at h;obtain rfl:=osi h;contradiction
 have tm:∀ {a},a∈rs.map (·.t)→a∈lsOf rs:=fun h=>by
  obtain ⟨r,hr,e⟩:=mem_map.mp h;exact Zh2 hr (.inl e.symm)
 have usn:∀ u∈lsOf rs'++lsOf rs2,u∈lsOf rs++lsOf rs2∨H1 u=none:=fun u hu=>(mem_append.mp hu).elim (fun h=>(W.u u h).imp_left (mem_append_left _)) fun h=>.inl (mem_append_right _ h);have hfu':f ∉ lsOf rs'++lsOf rs2:=fun z=>(usn f z).elim hfu fun e=>by rw [f1] at e;contradiction
 have b2':=W.k b _ (nt rfl b1) b1;have hb21:=kb _ _ bb.symm hb2;have b22:=W.k b2 _ (nt rfl hb21) hb21;have f2:=W.k f _ (fun z=>hfu (mem_append_left _ (tm z))) f1;have N2:Mir10 H2 pk rs2 B2.pacts:=(M2.kp kp).kx fun a o hL h=>W.k a o (fun z=>by
  obtain ⟨l,hl⟩:=Zsv M1 z;have:=hL (by rw [hl] at h;obtain rfl:=osi h;rfl);exact dis a (tm z) this) h
 have H2f:Hl H2 ha (f::(lsOf rs'++lsOf rs2)) N:=H1f.tr (fun a x _ _ hl h=>W.k a x (fun z=>by
  obtain ⟨l,hl'⟩:=Zsv M1 z;exact hl (by rw [hl'] at h;obtain rfl:=osi h;rfl) (.tail _ (mem_append_left _ (tm z)))) h) fun u hu=>by
   rcases mem_cons.mp hu with e | hu
   ·exact .inl (e▸.head _)
   ·exact (usn u hu).imp_left fun h=>.tail _ h
 have dis':∀ u∈lsOf rs',u ∉ lsOf rs2:=fun u hu hz=>(W.u u hu).elim (fun h=>dis u h hz) fun e=>Zh3 (M2.kp kp) u hz e;have usn2:∀ u∈lsOf rs'++lsOf rs2,H2 u≠none:=Zpc M2' N2;have S2:Ks H H2:=(Ks.kp kp).trans fun a x _ xl _ h=>W.k a x (nt xl h) h;clear W;refine Zno (i:=14) (m:=9) rfl rfl H2f hfu' f2 l2 (by lia) usn2 fun H3 k3 h3=>?_;have ha2:∃ l,H2 ha=some (.list l):=H2f.at;obtain ⟨_,ha2⟩:=ha2;have nl:∀ {a o},o.isL=false→H2 a=some o→H3 a=some o:=fun ho h=>k3 _ _ (fun z=>by rw [z,ha2] at h;obtain rfl:=osi h;contradiction) (fun z=>by rw [z,f2] at h;obtain rfl:=osi h;contradiction) h;have haf:=H2f.n;have kx:∀ {qs:List R10} {a:Addr} {o:AObj},(∀ u∈lsOf qs,u∈lsOf rs'++lsOf rs2)→(o.isL=true→a∈lsOf qs)→H2 a=some o→H3 a=some o:=fun {qs a o} hq hL h=>by
  cases ho:o.isL with
  | false=>exact nl ho h
  | true=>exact k3 _ _ (fun z=>haf (.tail _ (z▸hq a (hL ho)))) (fun z=>hfu' (z▸hq a (hL ho))) h
 have L3:Lt H3 b b2 pa pk ha B2 rs2 (N+1) B'.day:=⟨B',rs',ks,nl rfl b2',M2'.kx fun a o hL h=>kx (fun u hu=>mem_append_left _ hu) hL h,O',by refine rl (Zxc F ..) ?_;exact hX,rfl,h3,nl rfl b22,N2.kx fun a o hL h=>kx (fun u hu=>mem_append_right _ hu) hL h,dis',bb⟩
 have b3:H3 b=some (.book B'):=nl rfl b2';have S3:Ks H H3:=S2.trans fun a x _ xl _ h=>nl xl h;dsimp only [Zaw,Zby,Zay,x_ao,Zat,Za1,Za6,Zan,Zae,Zag,Za5,Zad,Zao];show match H3 b with | some (.inst _ _)=>_ | some (.book B)=>_ | _=>False
 refine rl (b3 ..) ?_;refine ⟨rfl,by refine rl (G.hP ..) ?_;rfl,?_⟩;refine Zmu (n:=n+4) G rfl ?_;dsimp only [Zaj];refine Eq.mpr (if_pos rfl) ?_;show match H3 b with | some (.inst _ _)=>_ | some (.book B)=>_ | _=>False
 refine rl (b3 ..) ?_;refine ⟨rfl,by refine rl (G.hP ..) ?_;rfl,?_⟩;show wcmp .NotEq (.int B'.day) (.int B'.day) _ _;dsimp only [c_ne,Zaj];refine rl (bne_self_eq_false ..) ?_;refine Eq.mpr (if_pos rfl) ?_;dsimp only [Zar,Zai,getElem?_cons_succ,v_0,Bool.not_eq_eq_eq_not,Bool.not_true,Zad,Zbv,ne_eq];refine ⟨by decide,?_⟩;refine Zu2 (n:=n) G L3 (by lia) fun H4 S4 L4=>?_;dsimp only [Zaj];refine Eq.mpr (if_neg (by decide)) ?_;exact q H4 _ (S3.trans S4) (L4.le (by lia))
end
end Mine
end
section
namespace Mine
open L10
section
variable {c:Cx} (G:Gd c L10.P) {n:Nat} {Q:AV→Zaa→Prop} {E:String→Zaa→Prop} {QN:VV→Zaa→Prop} {EE:String→VV→Zaa→Prop} {H:Zaa} {sp b b2 pa pk ha:Addr} {p3 p4 p7 p11 p12 p13 p14 p15:Option AV} {d:Int} {rs2:List R10} {B2:Bk} {N k:Nat} {ns:List Int}
include G
theorem Z0k (hs:H sp=some (.script ns)) (hk:k<ns.length) (hl:ns.length≤63) (L:Lt H b b2 pa pk ha B2 rs2 N d) (hN:N+395≤9000)
  (q:∀ H' d' p11 p12 p13 p14 p15,Ks H H'→Lt H' b b2 pa pk ha B2 rs2 (N+395) d'→QN (Vl sp b b2 pa pk ha p3 p4 p7 d' (some (.int k)) p11 p12 p13 p14 p15) H') :
  wpSs ⟨c,n+5,true⟩ (Zxb (L10.f_law.body.getD 10 .pass)) QN Q EE (Vl sp b b2 pa pk ha p3 p4 p7 d (some (.int k)) p11 p12 p13 p14 p15) H:=by
 obtain ⟨B,rs,ks,hb,M,O,hX,rfl,Hh,hb2,M2,dis,bb⟩:=L;refine w_st fun K nx=>?_;refine Zx2 hs hk (le_trans hl (by decide)) fun i=>Zg2 (n:=n+4) G rfl ⟨show 11<16 by decide,nx _ _ ?_⟩;generalize mixed i (k+70)=cl;show wpSs _ _ _ _ _ (Vl sp b b2 pa pk ha p3 p4 p7 B.day (some (.int k)) (some (.int cl)) p12 p13 p14 p15) _;refine w_st fun K nx=>?_;dsimp only [Zay,Zao,Zai,Zar,Zad,getElem?_cons_succ,v_0,Zbx,ne_eq,c_eq,Zaj,beq_iff_eq];refine ⟨by decide,?_⟩;split
 ·-- called off
  refine w_st fun K nx2=>?_;dsimp only [Zam,Zar,Zak,Zae,Zag,Zad];show Zc1 _ .list [.ref pa] _ _;obtain ⟨ep,hp⟩:=M.p;have hks:(dP B.pacts (rs.map (·.t))).map (fun e=>AV.str e.1)=txs (B.pacts.map (·.name)):=by
   refine rl (Eq.symm (Zrs M.len)) ?_;unfold txs;refine rl map_map ?_;rfl
  dsimp only [Zd9];refine rl hp ?_;refine ⟨rfl,?_,fun z1 hz1=>?_⟩
  ·have:=congrArg List.length hks;rw [length_map,Zaf,length_map] at this;refine rl this ?_;exact le_trans hX (by decide)
  refine rl hks ?_;have E1:=Ext.refl.new (o:=.list (txs (B.pacts.map (·.name)))) hz1;have h1:up H z1 (.list (txs (B.pacts.map (·.name)))) z1=some (.list (txs (B.pacts.map (·.name)))):=Zac;generalize up H z1 (.list (txs (B.pacts.map (·.name))))=H1 at E1 h1;dsimp only [Zau,Zae,Zag,Zai,Zav];intro a1 ha1 z2 hz2;have E2:=(Ext.refl.new (o:=.list [.str (ofString "one")]) ha1).new (o:=.list [.int 7,.none,.ref a1]) hz2;have a2:=Zdl (o:=.list [.int 7,.none,.ref a1]) (Zac (H:=H1) (a:=a1) (o:=.list [.str (ofString "one")])) hz2;have h2:up (up H1 a1 (.list [.str (ofString "one")])) z2 (.list [.int 7,.none,.ref a1]) z2=some (.list [.int 7,.none,.ref a1]):=Zac;generalize up (up H1 a1 (.list [.str (ofString "one")])) z2 (.list [.int 7,.none,.ref a1])=H2 at E2 a2 h2;dsimp only [tv,length_cons,length_nil,Nat.reduceAdd,set_cons_succ,set_cons_zero,Zar,Zai,Zad,getElem?_cons_succ,v_0,Zbv,ne_eq,Zbx];refine ⟨by decide,by decide,?_⟩;refine Zlq h2 (Za8 (by decide)) (Zbj (by decide)) (by show 3≤1000;decide) fun v hv=>?_;have kv:Kq H2 v:=by
   simp only [mem_cons,not_mem_nil,or_false] at hv;rcases hv with rfl | rfl | rfl
   ·exact .inl .int
   ·exact .inl .none
   ·exact .inr ⟨a1,_,rfl,a2⟩
  intro z3 hz3;have E3:=Ext.refl.new (o:=.list [.str (ofString "never"),v]) hz3;have h3:up H2 z3 (.list [.str (ofString "never"),v]) z3=some (.list [.str (ofString "never"),v]):=Zac;generalize up H2 z3 (.list [.str (ofString "never"),v])=H3 at E3 h3;refine Zes ((E2.trans E3) _ _ h1) h3 (by refine rl (Zaf ..) (rl (length_map ..) ?_);show _+2≤1000;lia) fun z4 hz4=>⟨show 12<16 by decide,nx2 _ _ ?_⟩
  have E4:=((E1.trans E2).trans E3).new (o:=.list (txs (B.pacts.map (·.name))++[.str (ofString "never"),v])) hz4;have h4:up H3 z4 (.list (txs (B.pacts.map (·.name))++[.str (ofString "never"),v])) z4=some (.list (txs (B.pacts.map (·.name))++[.str (ofString "never"),v])):=Zac;have kv4:Kq (up H3 z4 (.list (txs (B.pacts.map (·.name))++[.str (ofString "never"),v]))) v:=kv.kp (.ext (E3.new hz4));generalize up H3 z4 (.list (txs (B.pacts.map (·.name))++[.str (ofString "never"),v]))=H4 at E4 h4 kv4;have kall:∀ w∈txs (B.pacts.map (·.name))++[.str (ofString "never"),v],Kq H4 w:=fun w hw=>by
   rcases mem_append.mp hw with hw | hw
   ·obtain ⟨s,hs',rfl⟩:=mem_map.mp hw;obtain ⟨x,hx,rfl⟩:=mem_map.mp hs';exact .inl (.nm (O.I.pc x hx).nm)
   ·rcases mem_cons.mp hw with rfl | hw
    ·exact .inl (.str (by decide))
    ·refine rl (mem_singleton.mp hw) ?_;exact kv4
  have l4:(txs (B.pacts.map (·.name))++[.str (ofString "never"),v]).length≤1000:=by refine rl (length_append ..) (rl (Zaf ..) (rl (length_map ..) ?_));show _+2≤1000;lia
  have l4':0<(txs (B.pacts.map (·.name))++[.str (ofString "never"),v]).length:=by refine rl length_append ?_;show 0<_+2;lia
  generalize txs (B.pacts.map (·.name))++[.str (ofString "never"),v]=xs at h4 kall l4 l4';have x0:(0:Int)<(xs.length:Nat):=Int.natCast_pos.mpr l4';show wpSs _ _ _ _ _ (Vl sp b b2 pa pk ha p3 p4 p7 B.day (some (.int k)) (some (.int cl)) (some (.ref z4)) p13 p14 p15) _;dsimp only [Zaw,Zby,Zam,Zan,Zae,Zag,Zav,Zar,Zak,Zad,getElem?_cons_succ,v_0,Zai,Zbv,ne_eq];refine ⟨by decide,Zjr h4 (le_trans l4 (by decide)) ⟨Int.ne_of_gt x0,?_⟩⟩;refine Zlq h4 (Za8 x0) (Zbj x0) l4 fun w hw=>?_;refine Zr3 (n:=n) G (E4 _ _ hb) (M.kp (.ext E4)) O (kall w hw) (fun r hr=>le_trans (Zwl hr) (by lia)) fun t f L2 B' H5 f0 kb b5 t5 f5 l2 F O' hd=>⟨rfl,?_⟩
  unfold Zb7;dsimp only;refine rl t5 ?_;refine ⟨rfl,nx _ _ ?_⟩;refine rl hd.symm ?_;refine Zj8 (n:=n) G (E4 _ _ hb) (M.kp (.ext E4)) O hX (Hh.kp (.ext E4)) (E4 _ _ hb2) (M2.kp (.ext E4)) dis bb hN f0 kb b5 f5 l2 F O' fun H6 q15 S6 L6=>q H6 _ _ _ _ _ _ ((Ks.ext E4).trans S6) L6
 ·-- days passed
  dsimp only [Zaw,Zby,Zam,Zan,Zae,Zag,Zad];refine Zp5 (n:=n) G hb M O fun t f L2 B' H5 f0 kb b5 t5 f5 l2 F O'=>⟨rfl,?_⟩
  unfold Zb7;dsimp only;refine rl t5 ?_;refine ⟨rfl,nx _ _ ?_⟩;refine Zj8 (n:=n) G hb M O hX Hh hb2 M2 dis bb hN f0 kb b5 f5 l2 F O' fun H6 q15 S6 L6=>q H6 _ _ _ _ _ _ S6 L6
end
end Mine
end
section
namespace Mine
open L10
noncomputable def bI:Nat→Bk
 | 0=>⟨0,[],[],[]⟩
 | 1=>⟨0,[(till,5000)],[(till,0)],[]⟩
 | _=>bO 0
noncomputable def bM:Nat→Bk
 | 0=>⟨0,[(till,0)],[(till,0)],[]⟩
 | _=>⟨0,[(till,5000),(quay,0)],[(till,0),(quay,0)],[]⟩
theorem bI_s {i:Nat} {s:Str} (h:Zcl[i]? = some s):Zkn (bI i) (.str s) = .ok (bM i)∧putQ (bM i) (.str s) (.int 5000) = .ok (bI (i+1))∧(bI i).Sz∧(bM i).Sz:=by
 match i,h with
 | 0,h=>obtain rfl:=osi h;exact ⟨op1,pu1,⟨zero_le _,zero_le _⟩,⟨show 1≤sizeLine by decide,show 1≤sizeLine by decide⟩⟩
 | 1,h=>obtain rfl:=osi h;exact ⟨op2,pu2,⟨show 1≤sizeLine by decide,show 1≤sizeLine by decide⟩,⟨show 2≤sizeLine by decide,show 2≤sizeLine by decide⟩⟩
theorem bo0:∃ ks,Bo ks 10000 (bO 0):=by
 obtain ⟨ks,I⟩:=invO 0 (by decide);exact ⟨ks,I,by decide +kernel,fun x hx=>by contradiction,fun x hx=>by contradiction⟩
inductive Oi (sp b b2 z:Addr) (ns:List Int) (i:Nat) (V':VV) (H':Zaa):Prop
 | mk (p3 p4:Option AV) (hV:V'=[some (.ref sp),some (.ref b),some (.ref b2),p3,p4,none,none,none,none,none,none,none,none,none,none,none]) (hs:H' sp=some (.script ns)) (hz:H' z=some (.list (txs Zcl))) (hb:H' b=some (.book (bI i))) (hb2:H' b2=some (.book (bI i)))
inductive Oj (sp b b2 z zz:Addr) (s:Str) (ns:List Int) (i j:Nat) (V':VV) (H':Zaa):Prop
 | mk (p4:Option AV) (hV:V'=[some (.ref sp),some (.ref b),some (.ref b2),some (.str s),p4,none,none,none,none,none,none,none,none,none,none,none]) (hs:H' sp=some (.script ns)) (hz:H' z=some (.list (txs Zcl))) (hzz:H' zz=some (.list [.ref b,.ref b2])) (hb:H' b=some (.book (bI (if 1≤j then i+1 else i)))) (hb2:H' b2=some (.book (bI (if 2≤j then i+1 else i))))
inductive Dl (sp b b2 pa pk ha zr:Addr) (p3 p4 p7:Option AV) (ns:List Int) (B2:Bk) (rs2:List R10) (m:Int) (k:Nat) (V':VV) (H':Zaa):Prop
 | mk (p10 p11 p12 p13 p14 p15:Option AV) (d:Int) (hV:V'=Vl sp b b2 pa pk ha p3 p4 p7 d p10 p11 p12 p13 p14 p15) (hs:H' sp=some (.script ns)) (hz:H' zr=some (.range 0 m)) (L:Lt H' b b2 pa pk ha B2 rs2 (395*k) d)
theorem k10 {m:Int} {k:Nat} (h:m≤10):(k=m.toNat→395*k≤3950)∧(k<m.toNat→395*k+395≤9000):=by lia
section
variable {c:Cx} (G:Gd c L10.P) {n:Nat} {Q:AV→Zaa→Prop} {E:String→Zaa→Prop} {QN:VV→Zaa→Prop} {EE:String→VV→Zaa→Prop} {H:Zaa} {sp b b2 pa pk ha x:Addr} {p3 p4 p7 p10 p11 p12 p13 p14 p15:Option AV} {d:Int} {rs rs2:List R10} {B B2:Bk} {N k:Nat} {ns:List Int} {ks ks2:List (Str×List (Str×Int))} {V:VV} {us:List Addr}
include G
theorem Zu4 {i:Nat} {s:Str} (hi:Zcl[i]? = some s) (h4:V[4]? = some (some (.ref x))) (h3:V[3]? = some (some (.str s))) (hx:H x=some (.book (bI i))) (q:QN V (up (up H x (.book (bM i))) x (.book (bI (i+1))))):wpSs ⟨c,n+3,true⟩ [.expr (.meth (.var 4) "open_purse" [(.var 3)]),.expr (.meth (.var 4) "put" [(.var 3),(.lit (.int 5000))])] QN Q EE V H:=by
 have hM:c.P.meths=BK.meths:=by refine rl G.hP ?_;rfl
 obtain ⟨e1,e2,s1,s2⟩:=bI_s hi;have kn:=Kv.nm (Zdc s (mem_of_getElem? hi));refine w_st fun K nx=>?_;refine Zcu hM (by decide) (by decide) hx h4 ?_;dsimp only [Zae,Zag,Zad];refine rl h3 ?_;refine Zyo (n:=n) G U10.a hx kn.kn s1 ?_;refine rl e1 ?_;refine nx _ _ ?_;dsimp only [Zaw,Zby,Zax];refine Zcu hM (by decide) (by decide) Zac h4 ?_;dsimp only [Zae,Zag,Zad,Zai];refine rl h3 ?_;refine Z02 (n:=n) G U10.a rfl Zac kn.kn Kv.int.kn s2 ?_;refine rl e2 ?_;exact q
theorem Ztb (bb:b≠b2) (hs:H sp=some (.script ns)) (hb:H b=some (.book (bI 0))) (hb2:H b2=some (.book (bI 0))) {K:VV→Zaa→Prop}
  (q:∀ H' p3 p4,H' sp=some (.script ns)→H' b=some (.book (bO 0))→H' b2=some (.book (bO 0))→K [some (.ref sp),some (.ref b),some (.ref b2),p3,p4,none,none,none,none,none,none,none,none,none,none,none] H') :
  wpS ⟨c,n+3,true⟩ (L10.f_law.body.getD 2 .pass) K Q EE [some (.ref sp),some (.ref b),some (.ref b2),none,none,none,none,none,none,none,none,none,none,none,none,none] H:=by
 refine ⟨rfl,?_⟩;intro z hz;have E1:=Ext.refl.new (o:=.list (txs Zcl)) hz;have z1:up H z (.list (txs Zcl)) z=some (.list (txs Zcl)):=Zac;show WFor _ _ (.ref z) _ (up H z (.list (txs Zcl)));generalize up H z (.list (txs Zcl))=H1 at E1 z1;refine Zdb (xs:=txs Zcl) (by simp only [Zal,z1]) (Oi sp b b2 z ns) ⟨_,_,rfl,E1 _ _ hs,z1,E1 _ _ hb,E1 _ _ hb2⟩ ?_;rintro J hJ i V' H' ⟨p3,p4,rfl,hs',hz',hb',hb2'⟩;refine ⟨hz'.trans z1.symm,fun hi=>?_,fun v hv=>⟨show 3<16 by decide,?_⟩⟩
 ·have hi:i=2:=hi;subst hi;exact q H' p3 p4 hs' hb' hb2'
 unfold txs at hv;rw [getElem?_map,map_eq_some_iff] at hv;obtain ⟨s,hi,rfl⟩:=hv;dsimp only [Zaw,Zby];refine ⟨rfl,?_⟩;intro zz hzz;have E2:=Ext.refl.new (o:=.list [.ref b,.ref b2]) hzz;have zz2:up H' zz (.list [.ref b,.ref b2]) zz=some (.list [.ref b,.ref b2]):=Zac;generalize up H' zz (.list [.ref b,.ref b2])=H2 at E2 zz2;refine Zdb (xs:=[.ref b,.ref b2]) (by simp only [Zal,zz2]) (Oj sp b b2 z zz s ns i) ⟨_,rfl,E2 _ _ hs',E2 _ _ hz',zz2,E2 _ _ hb',E2 _ _ hb2'⟩ ?_;rintro J2 hJ2 j V' H3 ⟨q4,rfl,hs3,hz3,hzz3,hb3,hb23⟩;refine ⟨hzz3.trans zz2.symm,fun hj=>?_,fun v hv=>⟨show 4<16 by decide,?_⟩⟩
 ·have hj:j=2:=hj;subst hj;exact hJ _ _ _ ⟨_,_,rfl,hs3,hz3,hb3,hb23⟩
 have kx:∀ {x a:Addr} {o o1 o2:AObj},a≠x→H3 a=some o→up (up H3 x o1) x o2 a=some o:=fun h e=>by refine rl (Zab h) (rl (Zab h) ?_);exact e
 have nb:∀ {a o} {x:Addr} {B:Bk},H3 x=some (.book B)→o.isB=false→H3 a=some o→a≠x:=fun hx ho h e=>by rw [e,hx] at h;obtain rfl:=osi h;contradiction
 match j,hv with
 | 0,hv =>
  obtain rfl:=osi hv;refine Zu4 (n:=n) G hi rfl rfl hb3 ?_;exact hJ2 _ _ _ ⟨_,rfl,kx (nb hb3 rfl hs3) hs3,kx (nb hb3 rfl hz3) hz3,kx (nb hb3 rfl hzz3) hzz3,Zac,kx bb.symm hb23⟩
 | 1,hv =>
  obtain rfl:=osi hv;refine Zu4 (n:=n) G hi rfl rfl hb23 ?_;exact hJ2 _ _ _ ⟨_,rfl,kx (nb hb23 rfl hs3) hs3,kx (nb hb23 rfl hz3) hz3,kx (nb hb23 rfl hzz3) hzz3,kx bb hb3,Zac⟩
theorem Zzu (h9:V[9]? = some (some (.ref ha))) (hl:V.length=16) (Hh:Hl H ha us N) (hN:N≤9000) (q:∀ H',Q (.bool true) H'):wpX ⟨c,n+5,true⟩ (.cmp .Eq (.comp (.var 16) 1 false (.var 9) (some (.cmp .NotEq (.sub (.var 16) (.lit (.int 0))) (.sub (.var 16) (.lit (.int 1)))))) (.list [])) V Q E H:=by
 obtain ⟨hs,h1,h2,h3,_⟩:=Hh;refine ⟨rfl,?_⟩;dsimp only [Zad];refine rl h9 ?_;show Zj3 _ _ (.ref ha) _;refine Zdi (xs:=hs.map .ref) (by simp only [Zal,h1]) (by refine rl (length_map ..) ?_;exact le_trans h2 (le_trans hN (by decide))) (fun _=>none) (fun v hv nx hnx=>?_) fun z hz=>?_
 ·obtain ⟨h,hh,rfl⟩:=mem_map.mp hv;obtain ⟨f1,f2,l,P⟩:=h3 h hh;have hv16:(V++[some (.ref h)])[16]? = some (some (.ref h)):=by refine rl (getElem?_append_right (by rw [hl];exact le_refl _)) (rl hl ?_);rfl
  refine Eq.mpr (if_neg Bool.false_ne_true) ?_;dsimp only [Zbg,Zao,Zav,Zad,Zai];refine rl hv16 ?_;refine Zx1 (j:=0) P.t rfl (show 2≤1000 by decide) ?_;refine Zx1 (j:=1) P.t rfl (show 2≤1000 by decide) ?_;dsimp only [Zuo];refine Zhb P.a P.b ?_;refine rl (decide_eq_true rfl) ?_;exact hnx
 ·refine rl (show (hs.map AV.ref).filterMap (fun _=>none)=txs [] from by rw [List.filterMap_eq_nil_iff.mpr fun _ _=>rfl];rfl) ?_;intro z2 hz2;refine Zhb (l:=[]) (l':=[]) (Zdl Zac hz2) Zac ?_;exact q _
theorem Zq2 (hl:ns.length≤63) (hs:H sp=some (.script ns)) (hb:H b=some (.book B)) (M:Mir10 H pa rs B.pacts) (O:Bo ks 10000 B) (hX:B.pacts.length≤43) (hd:B.day=0) (hb2:H b2=some (.book B2)) (M2:Mir10 H pk rs2 B2.pacts) (O2:Bo ks2 10000 B2) (hX2:B2.pacts.length≤43) (hd2:B2.day=0) (dis:∀ u∈lsOf rs,u ∉ lsOf rs2) (bb:b≠b2) :
  wpSs ⟨c,n+5,true⟩ (L10.f_law.body.drop 6) (fun _ H=>AV.none = .bool true) (fun v _=>v = .bool true) (fun _ _ _=>False) [some (.ref sp),some (.ref b),some (.ref b2),p3,p4,some (.ref pa),some (.ref pk),none,none,none,none,none,none,none,none,none] H:=by
 refine w_st fun K nx=>⟨show 7<16 by decide,nx _ _ ?_⟩
 refine w_st fun K nx=>?_;dsimp only [Zay,set_cons_succ,set_cons_zero,Zao,Zai,Zak,Zae,Zag,Zad,v_0];refine Zvl hs (le_trans hl (by decide)) ?_;refine Eq.mpr (if_neg fun z=>by have:=of_decide_eq_true z;lia) (nx _ _ ?_);refine w_st fun K nx=>⟨show 8<16 by decide,nx _ _ ?_⟩
 refine w_st fun K nx=>?_;intro ha hha;refine ⟨show 9<16 by decide,nx _ _ ?_⟩;have E1:=Ext.refl.new (o:=.list []) hha;have h1:up H ha (.list []) ha=some (.list []):=Zac;have L0:Lt (up H ha (.list [])) b b2 pa pk ha B2 rs2 0 0:=⟨B,rs,ks,E1 _ _ hb,M.kp (.ext E1),O,hX,hd,⟨[],h1,le_refl 0,(fun h hh=>by contradiction),fun z=>Zpc M M2 _ z hha⟩,E1 _ _ hb2,M2.kp (.ext E1),dis,bb⟩
 have hs1:=E1 _ _ hs;generalize up H ha (.list [])=H1 at L0 hs1;refine w_st fun K nx=>?_;refine ⟨rfl,?_⟩;dsimp only [Zak,set_cons_succ,set_cons_zero,wtg,Zae,Zag,Zad,v_0,getElem?_cons_succ];refine Zvl hs1 (le_trans hl (by decide)) ?_;refine rl Z03 ?_;refine ⟨rfl,?_⟩;generalize hm:(if (ns.length:Int)<10 then (ns.length:Int) else 10)=m;have m0:0≤m∧m≤10∧m≤ns.length:=by refine rl hm.symm ?_;split<;>lia
 refine Ztm m0.1 (by lia) fun zr H2 hzr E2 hz=>?_;refine Zvw hz (Dl sp b b2 pa pk ha zr p3 p4 (some (.int 10)) ns B2 rs2 m) ⟨_,_,_,_,_,_,0,rfl,E2 _ _ hs1,hz,L0.ext E2⟩ ?_;rintro J hJ k V' H' ⟨q10,q11,q12,q13,q14,q15,d,rfl,hs',hz',L⟩;refine ⟨hz',fun hk=>nx _ _ ?_,fun hk=>⟨show 10<16 by decide,?_⟩⟩
 ·have L:=L.le ((k10 m0.2.1).1 hk);refine w_st fun K nx=>?_;refine Zu2 (n:=n) G L (by decide) fun H3 S3 L3=>?_;dsimp only [Zaj];refine Eq.mpr (if_pos rfl) ?_;have hb23:H3 b2=some (.book B2):=by obtain ⟨_,_,_,_,_,_,_,_,_,h,_⟩:=L3;exact h
  show match H3 b2 with | some (.inst _ _)=>_ | some (.book B)=>_ | _=>False
  refine rl hb23 ?_;refine ⟨rfl,by refine rl G.hP ?_;rfl,?_⟩;refine rl hd2 ?_;dsimp only [Zai];show wcmp .NotEq (.int 0) (.int 0) _ _;dsimp only [c_ne,Zaj];refine Eq.mpr (if_pos rfl) ?_;refine same2 (n:=n) G O2 hX2 L3 (by decide) fun H4 us4 h4=>?_;dsimp only [Zaj];refine Eq.mpr (if_neg (by decide)) (nx _ _ ?_);exact Zzu (n:=n) G rfl rfl h4 (by decide) fun _=>rfl
 ·have hkn:k<ns.length:=by lia
  refine Z0k (n:=n) G hs' hkn hl L ((k10 m0.2.1).2 hk) fun H3 d3 r11 r12 r13 r14 r15 S3 L3=>hJ _ _ _ ⟨_,_,_,_,_,_,d3,rfl,S3 _ _ rfl rfl rfl hs',S3 _ _ rfl rfl rfl hz',?_⟩;refine rl (show 395*(k+1)=395*k+395 from Nat.mul_succ 395 k) ?_;exact L3
theorem Zt4 (h:H sp=some (.script ns)) (hl:ns.length≤63):CallOK c (n+6) true "law" [.ref sp] (fun v _=>v = .bool true) (fun _ _=>False) H:=by
 refine G.call (F:=L10.f_law) rfl rfl ?_;refine w_st fun K nx=>?_;dsimp only [Zam];refine Znc (c:=c) rfl G U10.a ⟨_,rfl⟩ fun b hb=>⟨show 1<16 by decide,nx _ _ ?_⟩
 have b1:up H b (.book ⟨0,[],[],[]⟩) b=some (.book (bI 0)):=Zac;have s1:up H b (.book ⟨0,[],[],[]⟩) sp=some (.script ns):=Zdl h hb;generalize up H b (.book ⟨0,[],[],[]⟩)=H1 at b1 s1;refine w_st fun K nx=>?_;dsimp only [Zam];refine Znc (c:=c) rfl G U10.a ⟨_,rfl⟩ fun b2 hb2=>⟨show 2<16 by decide,nx _ _ ?_⟩
 have bb:b≠b2:=Zh0 b1 hb2;have b21:up H1 b2 (.book ⟨0,[],[],[]⟩) b2=some (.book (bI 0)):=Zac;have b1':up H1 b2 (.book ⟨0,[],[],[]⟩) b=some (.book (bI 0)):=Zdl b1 hb2;have s2:up H1 b2 (.book ⟨0,[],[],[]⟩) sp=some (.script ns):=Zdl s1 hb2;generalize up H1 b2 (.book ⟨0,[],[],[]⟩)=H2 at b21 b1' s2;refine w_st fun K nx=>?_;refine Ztb (n:=n+2) G bb s2 b1' b21 fun H3 p3 p4 s3 b3 b23=>nx _ _ ?_;refine w_st fun K nx=>?_;refine Zm7 (n:=n) G s3 hl b3 fun H4 pa rs ks B k4 hpa b4 M4 O4 d4 hX4 f4=>⟨show 5<16 by decide,nx _ _ ?_⟩
 have s4:=k4 _ _ (fun e=>by rw [e,b3] at s3;cases s3) s3;have b24:=k4 _ _ bb.symm b23;refine w_st fun K nx=>?_;intro pk hpk;refine ⟨show 6<16 by decide,nx _ _ ?_⟩;have E5:=Ext.refl.new (o:=.dict 0 []) hpk;have k5:up H4 pk (.dict 0 []) pk=some (.dict 0 []):=Zac;generalize up H4 pk (.dict 0 [])=H5 at E5 k5;have M5:=M4.kp (.ext E5);refine w_st fun K nx=>?_;dsimp only [Zay,Zao,Zak,Zae,Zag,Zad,Zai];show Zc1 _ .len [.ref pa] _ _;obtain ⟨ep,hp5⟩:=M5.p;dsimp only [Ze2];refine rl hp5 ?_;refine ⟨?_,?_⟩
 ·have:=congrArg List.length (Zrs M5.len);rw [length_map,length_map] at this;refine rl this ?_;exact lt_of_le_of_lt hX4 (by decide)
 dsimp only [c_lt,Zaj];split
 ·dsimp only [Zaw,Zby,Zam,Zan,Zae,Zag,Zad];refine Zm7 (n:=n) G (E5 _ _ s4) hl (E5 _ _ b24) fun H6 pk2 rs2 ks2 B2 k6 hpk2 b6 M6 O6 d6 hX6 f6=>⟨show 6<16 by decide,nx _ _ ?_⟩
  have kp6:=Kp.kb (E5 _ _ b24) k6;exact Zq2 G hl (kp6 _ _ rfl (E5 _ _ s4)) (k6 _ _ bb (E5 _ _ b4)) (M5.kp kp6) O4 hX4 d4 b6 M6 O6 hX6 d6 (fun u hu hz=>Zh3 M5 u hu (f6 u hz)) bb
 ·refine nx _ _ ?_;obtain ⟨ks0,O0⟩:=bo0;exact Zq2 (rs2:=[]) G hl (E5 _ _ s4) (E5 _ _ b4) M5 O4 hX4 d4 (E5 _ _ b24) ⟨⟨0,k5⟩,trivial,nodup_nil,fun r hr=>by contradiction⟩ O0 (by decide) rfl (fun u hu hz=>by contradiction) bb
end
end Mine
end
namespace Mine.L10
theorem law_ok {c:Cx} (G:Gd c P) {n:Nat} {H:Zaa} {sp:Addr} {ns:List Int} (h:H sp=some (.script ns)) (hl:ns.length≤63):CallOK c (n+6) true "law" [.ref sp] (fun v _=>v = .bool true) (fun _ _=>False) H:=Zt4 G h hl
end Mine.L10
namespace Mine.L10
noncomputable def view:Program:=PySem.W.view PySem.Challenge.pw_uf020038_10 [49]
noncomputable def loose:List Str:=[ofString "_wall",ofString "__name__",ofString "BookError",ofString "NoName",ofString "NoAmount",ofString "Taken",ofString "NoPurse",ofString "TooLittle",ofString "NoRow",ofString "Twice",ofString "Uneven",ofString "Fallen",ofString "NoDay",ofString "NoPact",ofString "NotOpen",ofString "NoPart",ofString "Already",ofString "Pact",ofString "are_met",ofString "table_of",ofString "greatest",ofString "LETTERS",ofString "MOST_SIGNS",ofString "MOST_AMOUNT",ofString "is_whole",ofString "is_name",ofString "name_of",ofString "amount_of",ofString "MOST",ofString "Book",ofString "_law_whole",ofString "_law_cell_at",ofString "_law_mixed",ofString "_law_word",ofString "_law_pact_by",ofString "_law_next",ofString "_law_fell",ofString "_law_due_of",ofString "_law_one_same",ofString "_law_crossed",ofString "_law_same",ofString "_law_called",ofString "_law_passed",ofString "_law_pacts"]
noncomputable def hook:Hook:=Znf P (3::(List.range 582).drop 11)
theorem left:LeftO PySem.Challenge.pw_uf020038_10 view loose (fun s=>xlAt view [] s&&recOk [] s) hook.obs hook.val 30000 true :=
 Zwt Zol (m₀:=11) (ann:=some (.ref 6)) rfl rfl (fun s=>rfl) (fun w=>by kernel_rfl) (fun w os=>by kernel_rfl)
end Mine.L10
open PySem.W.X in
set_option maxHeartbeats 0 in
theorem PySem.Challenge.cw_uf020038_10_holds : PySem.Challenge.rw_uf020038_10.Holds := by
 w_on
 refine holds_law (by decide +kernel) fun said=>?_;refine holds_open (q:=Mine.L10.view) (loose:=Mine.L10.loose) (Xt:=fun s=>xlAt Mine.L10.view [] s&&recOk [] s) (XP:=XL Mine.L10.view []) (Yf:=Mine.L10.hook.obs) (Ya:=Mine.L10.hook.val) (YP:=Mine.L10.hook.says) (N:=30000) Mine.L10.left Mine.L10.hook.of Mine.L10.hook.keeps (fun s e=>xl_of s (Bool.and_eq_true_iff.mp e).1) XL.keeps (by rfl) (by rfl) (by rfl) (fun s e=>recFacts_of (Bool.and_eq_true_iff.mp e).2) (by rfl) (by first | assumption | decide +kernel) (by decide +kernel) ⟨rfl,rfl,rfl,rfl,rfl,by decide +kernel⟩ ?hw ?hc
 case hw=>w_witness2
 case hc =>
  intro w s₀ s₁ mg mb G Y fa o pm cd doc dV kV ho hd hcd hD hmg hg args vals as hpre hlay hrd hwl hlo;obtain ⟨K,KX,hok⟩:=Y;clear ho hd hcd hD;refine Ground.open G ?_;intro T B D TE TW
  wrow_args hpre hlay hrd hwl hlo
  clear G B D TE TW;have hseer:=T.seer (by decide +kernel);refine Mine.enter (P:=Mine.L10.P) (n:=6) (by decide) KX T hseer (by rfl) rfl hmg hok (by rfl) (Mine.script_get (by assumption) (by assumption)) (by assumption) ?mineC ?mineQ
  case mineC =>
   intro c hP C PO FO;exact Mine.L10.law_ok (n:=0) ⟨hP,⟨_,_,C⟩,PO,FO⟩ Mine.scriptH_at (by omega)
  case mineQ =>
   intro s' st ho hgn;exact GoodW.toG ⟨.inl ⟨.bool true,.bool true,[],rfl,fun _=>rfl,.bool true,by kernel_rfl,fun _=>⟨nodup_nil,fun a ha=>by cases ha⟩⟩,st,ho,hgn.trans hg⟩




#print axioms PySem.Challenge.cw_uf020038_10_holds
