import PyProof.Rows.All
import Wide.All
import OpenK.AllK
import Wide.FinOn
import KE.KDictList
import KE.KDictOf
import KE.KEqDict
import KE.KTurns
import Open.Boot
import Open.FastT9
import Open.Tree
import OpenK.KCell
import OpenK.KList
import OpenK.KMore
import OpenK.KNot
import OpenK.KOwn
import OpenK.KWalk
import PyProof.AttrMissHeap
import PyProof.EnumMake
import PyProof.ExcArgs
import PyProof.LayNew
import PyProof.NsDelKeeps
import PyProof.StrLoop
import PyProof.WalksMore
import PyProof.WalksPairs
import PyProof.ZipIter
import PySem.Challenge.RW_uf020038_13
open PySem PySem.W PyProof.Rows PySem.Spec PySem.SeqAt PySem.Calls
set_option Elab.async false
set_option maxRecDepth 100000
set_option maxHeartbeats 4000000
set_option linter.all false
set_option bootstrap.genMatcherCode false
set_option genSizeOf false
set_option genSizeOfSpec false
open List (all_eq_true any_cons any_eq_true append_assoc append_nil cons_append contains_cons contains_iff_mem drop_length drop_zero filterMap_cons filter_append filter_cons filter_eq_nil_iff filter_map filter_sublist find?_append find?_cons find?_some foldl_append forIn_cons forIn_nil getElem?_append_left getElem?_append_right getElem?_cons_succ getElem?_eq_getElem getElem?_eq_none getElem?_map getElem?_set_ne getElem_range isEmpty_iff length_append length_cons length_drop length_filter_le length_map length_nil length_range length_set length_take lookup_cons map_append map_congr_left map_cons map_id map_map map_take mem_append mem_append_left mem_append_right mem_cons mem_cons_of_mem mem_cons_self mem_filter mem_iff_getElem mem_map mem_map_of_mem mem_of_getElem? mem_of_mem_take mem_range mem_singleton nil_append nodup_append nodup_cons nodup_nil not_mem_nil prefix_refl range_succ reverse_cons set_cons_succ set_cons_zero size_toArray take_add_one take_append_drop take_length take_of_length_le take_sublist take_zero)
open Nat (add_le_add le_of_eq le_of_lt le_refl le_succ le_succ_of_le le_trans lt_irrefl lt_of_le_of_lt lt_of_lt_of_le lt_or_ge lt_succ_self lt_trans min_eq_left min_le_right ne_of_gt ne_of_lt not_lt not_lt_zero sub_self succ_le_succ succ_pos zero_add zero_le)
open Int (add_zero fmod_eq_emod_of_nonneg natCast_nonneg ofNat_le ofNat_lt sub_zero toNat_natCast toNat_of_nonneg)
open Option (getD_some isSome_iff_exists isSome_map map_eq_none_iff map_eq_some_iff map_some)
open PySem.Str (ofString)
namespace Mine.Internal
section
variable{a b c d e f g p q r:Nat}{u v w x y z:Int}
theorem Dw:a<=a+b:=Nat.le_add_right a b
theorem Jp:u<26->u.toNat<26:=by lia
theorem Nj:a<b->b-(a+1)<b-a:=λz1=>Nat.sub_succ_lt_self b a z1
theorem Ni:a<b->c=b-a->b-(a+1)<c:=λh k=>k▸Nat.sub_succ_lt_self b a h
theorem Hp:a<2^62->a=b->(b:Int)<2^63:=λh k=>Int.lt_trans (ofNat_lt.mpr (k▸h)) (by decide)
theorem Kz:a<=b+(c+a):=by lia
theorem HN:a<=b+c->b<=d->a<=d+c:=λh k=>le_trans h (Nat.add_le_add_right k c)
theorem KE:a<=b->b<=c->d<=min e a->d<=c:=λh k m=>le_trans m (le_trans (min_le_right ..) (le_trans h k))
theorem DV:a<b->b<=c->c<=d->a<=d:=λh k m=>le_trans (le_of_lt h) (le_trans k m)
theorem Ku:a+b=c->b-d=c-a-d:=λh=>by rw[<-h,Nat.add_sub_cancel_left]
theorem Nk:a<=b->b<=c->a-d+min d a<=c:=λh k=>by rw[Nat.min_comm,Nat.sub_add_min_cancel];exact le_trans h k
theorem HD:0<=u->u=((u.toNat:Nat):Int):=λh=>(toNat_of_nonneg h).symm
theorem FU:u<v->u<(a:Int)+v:=λh=>Int.lt_of_lt_of_le h (Int.le_add_of_nonneg_left (natCast_nonneg a))
theorem Nl:a+b<c->d<=b->a+min e d<c:=λh k=>lt_of_le_of_lt (Nat.add_le_add_left (le_trans (min_le_right ..) k) a) h
theorem HL:a+(b+c)=a+c+b:=by lia
theorem HF:a<=b->b<=c->min d a<=c:=λh k=>le_trans (min_le_right ..) (le_trans h k)
theorem Kx:a<=b->min c (a-d)<=b:=λh=>le_trans (min_le_right ..) (le_trans (Nat.sub_le ..) h)
theorem HH:a=b->a<=c->b<=c:=λz1 z2=>le_of_eq_of_le (id (Eq.symm z1)) z2
theorem HJ:a<b->c=d->d<=a->c<b:=λh k m=>lt_of_le_of_lt (k▸m) h
theorem Lc:0<=u->v-u<=v:=λz1=>Int.sub_le_self v z1
theorem FV:a<b->b<=1000->(a:Int)<2^63:=λh k=>Int.lt_trans (ofNat_lt.mpr (lt_of_lt_of_le h k)) (by decide)
theorem FW:a<b->b<=600->(a:Int)<600:=λh k=>show(a:Int)<(600:Nat) from ofNat_lt.mpr (lt_of_lt_of_le h k)
theorem KP:(-2^62:Int)<(a:Int):=Rat.intCast_lt_intCast.mp rfl
theorem EY:(-2^63:Int)<=(a:Int):=Int.neg_ofNat_le_natCast (2 ^ 63) a
theorem KF:a-b=c->c<=d->a<=d+b:=λh k=>Nat.le_add_of_sub_le (le_trans (le_of_eq h) k)
theorem KN:a<b->c<=b-1->c<b:=λh k=>Nat.lt_of_le_pred (Nat.zero_lt_of_lt h) k
theorem Le:u-(a:Int)-1=u-((a+1:Nat):Int):=Int.sub_sub u a 1
theorem F9:a<b->b<=c->a<=c:=λh k=>le_trans (le_of_lt h) k
theorem KT:0<=u->u<(a:Int)->u.toNat<a:=λh k=>(Int.toNat_lt h).mpr k
theorem Hs:a<b->c<=a->c<=b:=λh k=>le_trans k (le_of_lt h)
theorem KS:a<=b->b<=c->a+(b-a)<=c:=λh k=>(Nat.add_sub_of_le h).symm▸k
theorem HP:a+b=c->c<=d+b->a<=d:=λh k=>Nat.le_of_add_le_add_right (h▸k)
theorem Lb:a+b+c+d<e->f<b->a+1+f<e:=λh k=>lt_of_le_of_lt (le_trans (by rw[Nat.add_assoc,Nat.add_comm 1];exact Nat.add_le_add_left k a) (le_trans (Nat.le_add_right _ c) (Nat.le_add_right _ d))) h
theorem KG:1<=a->¬a=1->1<=a-1:=λh k=>Nat.le_sub_one_of_lt (Nat.lt_of_le_of_ne h (Ne.symm k))
theorem KC:a<=0+min b c->c<=d->a<=d:=λh k=>le_trans (zero_add _▸h) (le_trans (min_le_right ..) k)
theorem KI:a<b->b<=c->d=e->d<=a->e<=c:=λh k m n=>le_trans (m▸n) (le_trans (le_of_lt h) k)
theorem KQ:u<11->u.toNat<=10:=λh=>Int.toNat_le.mpr (Int.le_sub_one_of_lt h)
theorem Hq:u+(a:Int)+1=u+((a+1:Nat):Int):=Int.add_assoc u a 1
theorem HM:a<b+1->¬a=b->a<b:=λh k=>Nat.lt_of_le_of_ne (Nat.le_of_lt_succ h) k
theorem FA:a=b->b<=c->c<=d->a<=d:=λh k m=>h▸le_trans k m
theorem KZ:((a:Int)+1*(b:Int)).toNat=a+b:=by rw[Int.one_mul];rfl
theorem HB:0+a<=a:=by lia
theorem Hr:a=u.toNat->u<=(b:Int)->a<=b:=λh k=>h▸Int.toNat_le.mpr k
theorem F8:a=b->c<=b->c<=a:=λz1 z2=>le_of_le_of_eq z2 (id (Eq.symm z1))
theorem La:0<=u->v<=w->v<=w+u:=λh k=>Int.le_trans k (Int.le_add_of_nonneg_right h)
theorem HG:a+b=c->c<=d+1->d<=e->e<f->a<=f:=λh k m n=>le_trans (h▸Nat.le_add_right a b) (le_trans k (le_trans (succ_le_succ m) n))
theorem Ht:a=u.toNat->u<=8->a<=8:=λh k=>h▸Int.toNat_le.mpr k
theorem KW:a=b+c->a-b=c:=λz1=>Eq.symm (Nat.eq_sub_of_add_eq' (id (Eq.symm z1)))
theorem KR:a<=10->(a:Int)<2^62:=λh=>Int.lt_of_le_of_lt (ofNat_le.mpr h) (by decide)
theorem KM:a+b=c->c<=d->d=d-b+b:=λh k=>(Nat.sub_add_cancel (le_trans (h▸Nat.le_add_left b a) k)).symm
theorem HI:u<v->¬(a:Int)+v=u:=λh=>Int.ne_of_gt (Int.lt_of_lt_of_le h (Int.le_add_of_nonneg_left (natCast_nonneg a)))
theorem KY:u<=v->u<=16+v:=λh=>Int.le_trans h (Int.le_add_of_nonneg_left (by decide))
theorem Ld:a<=b->b=u.toNat->u<=8->a<=8:=λh k m=>le_trans h (k▸Int.toNat_le.mpr m)
theorem K_:u<=v->u<=10+v:=λh=>Int.le_trans h (Int.le_add_of_nonneg_left (by decide))
theorem KL:u<3->(10+u).toNat<=12:=λh=>Int.toNat_le.mpr (Int.add_le_add_left (Int.le_sub_one_of_lt h) 10)
theorem KJ:u<15->(16+u).toNat<=30:=λh=>Int.toNat_le.mpr (Int.add_le_add_left (Int.le_sub_one_of_lt h) 16)
theorem HQ:a<=12->b<=30->a+b<=600:=λh k=>le_trans (add_le_add h k) (by decide)
theorem K9:0<=u->(2:Nat)<=(10+u).toNat:=λh=>(Int.le_toNat (Int.add_nonneg (by decide) h)).mpr (Int.le_trans (by decide) (Int.le_add_of_nonneg_right h))
theorem KA:0<=u->(2:Nat)<=(16+u).toNat:=λh=>(Int.le_toNat (Int.add_nonneg (by decide) h)).mpr (Int.le_trans (by decide) (Int.le_add_of_nonneg_right h))
theorem Ky:u<=(a:Int)\/u=1/\a=b->v<u->v.toNat<=a:=by lia
theorem F7:a<=12->b<=30->a+b<=1000:=λh k=>le_trans (add_le_add h k) (by decide)
theorem KO:a<=b->b<u.toNat->u<=(c:Int)->a<c:=λh k m=>lt_of_le_of_lt h (lt_of_lt_of_le k (Int.toNat_le.mpr m))
theorem Lh:a+(b+c)<=d->a+c+b<=d:=λh=>by rw[Nat.add_assoc,Nat.add_comm c];exact h
theorem Lf:a<=60->9*min b a<=540:=λh=>Nat.mul_le_mul_left 9 (le_trans (min_le_right ..) h)
theorem HK:a<2^62->¬(2^63:Int)<=(a:Int):=λh=>Int.not_le.mpr (Int.lt_trans (ofNat_lt.mpr h) (by decide))
theorem Hv:a+1=b->a<c->c<d->b<d:=λh k m=>h▸lt_of_le_of_lt k m
theorem Hu:a+(b+1)=c->a<c:=λh=>h▸Nat.lt_add_of_pos_right (succ_pos b)
theorem HE:a=b->a<=c->b=d->d<=c:=λh k m=>m▸h▸k
theorem Hx:a<b->b<c->c<=d->a<d:=λh k m=>lt_trans h (lt_of_lt_of_le k m)
theorem KU:a<2^62->b=a->(b:Int)<2^63:=λh k=>Int.lt_trans (ofNat_lt.mpr (k▸h)) (by decide)
theorem KH:0<=u->(2:Nat)<=(2+u).toNat:=λh=>(Int.le_toNat (Int.add_nonneg (by decide) h)).mpr (Int.le_add_of_nonneg_right h)
theorem KV:a+b<=c->c<=d->a+min e b<=d:=λh k=>le_trans (Nat.add_le_add_left (min_le_right ..) a) (le_trans h k)
theorem HA:¬a<b->¬(a:Int)<(b:Int):=λh k=>h (ofNat_lt.mp k)
theorem Hy:1<=a->b+a=c->b<c:=λh k=>k▸Nat.lt_add_of_pos_right h
theorem HC:a<b->min a b=a:=λh=>min_eq_left (le_of_lt h)
theorem Hw:u<9->u<=8:=λz1=>(λ{u b}=> Int.le_iff_lt_add_one.mpr) z1
theorem Lg:a+b+c<d->a+e*0+c<d:=λh=>lt_of_le_of_lt (Nat.add_le_add_right (Nat.le_add_right a b) c) h
end
set_option tactic.hygienic false
theorem e11.{u0}{α:Sort u0}{p:α->Prop}{C:Prop}(h:∃a,p a)(k:∀a,p a->C):C:=let ⟨a,h0⟩:=h;k a h0
theorem e12.{u0}{α:Sort u0}{p q:α->Prop}{C:Prop}(h:∃a,p a/\q a)(k:∀a,p a->q a->C):C:=let ⟨a,h0,h1⟩:=h;k a h0 h1
theorem e13.{u0}{α:Sort u0}{p q r:α->Prop}{C:Prop}(h:∃a,p a/\q a/\r a)(k:∀a,p a->q a->r a->C):C:=let ⟨a,h0,h1,h2⟩:=h;k a h0 h1 h2
theorem e14.{u0}{α:Sort u0}{p q r s:α->Prop}{C:Prop}(h:∃a,p a/\q a/\r a/\s a)(k:∀a,p a->q a->r a->s a->C):C:=let ⟨a,h0,h1,h2,h3⟩:=h;k a h0 h1 h2 h3
theorem e15.{u0}{α:Sort u0}{p q r s t:α->Prop}{C:Prop}(h:∃a,p a/\q a/\r a/\s a/\t a)(k:∀a,p a->q a->r a->s a->t a->C):C:=let ⟨a,h0,h1,h2,h3,h4⟩:=h;k a h0 h1 h2 h3 h4
theorem e21.{u0,u1}{α:Sort u0}{β:Sort u1}{p:α->β->Prop}{C:Prop}(h:∃a b,p a b)(k:∀a b,p a b->C):C:=let ⟨a,b,h0⟩:=h;k a b h0
theorem e22.{u0,u1}{α:Sort u0}{β:Sort u1}{p q:α->β->Prop}{C:Prop}(h:∃a b,p a b/\q a b)(k:∀a b,p a b->q a b->C):C:=let ⟨a,b,h0,h1⟩:=h;k a b h0 h1
theorem e23.{u0,u1}{α:Sort u0}{β:Sort u1}{p q r:α->β->Prop}{C:Prop}(h:∃a b,p a b/\q a b/\r a b)(k:∀a b,p a b->q a b->r a b->C):C:=let ⟨a,b,h0,h1,h2⟩:=h;k a b h0 h1 h2
theorem e24.{u0,u1}{α:Sort u0}{β:Sort u1}{p q r s:α->β->Prop}{C:Prop}(h:∃a b,p a b/\q a b/\r a b/\s a b)(k:∀a b,p a b->q a b->r a b->s a b->C):C:=let ⟨a,b,h0,h1,h2,h3⟩:=h;k a b h0 h1 h2 h3
theorem e25.{u0,u1}{α:Sort u0}{β:Sort u1}{p q r s t:α->β->Prop}{C:Prop}(h:∃a b,p a b/\q a b/\r a b/\s a b/\t a b)(k:∀a b,p a b->q a b->r a b->s a b->t a b->C):C:=let ⟨a,b,h0,h1,h2,h3,h4⟩:=h;k a b h0 h1 h2 h3 h4
theorem e31.{u0,u1,u2}{α:Sort u0}{β:Sort u1}{γ:Sort u2}{p:α->β->γ->Prop}{C:Prop}(h:∃a b c,p a b c)(k:∀a b c,p a b c->C):C:=let ⟨a,b,c,h0⟩:=h;k a b c h0
theorem e32.{u0,u1,u2}{α:Sort u0}{β:Sort u1}{γ:Sort u2}{p q:α->β->γ->Prop}{C:Prop}(h:∃a b c,p a b c/\q a b c)(k:∀a b c,p a b c->q a b c->C):C:=let ⟨a,b,c,h0,h1⟩:=h;k a b c h0 h1
theorem e33.{u0,u1,u2}{α:Sort u0}{β:Sort u1}{γ:Sort u2}{p q r:α->β->γ->Prop}{C:Prop}(h:∃a b c,p a b c/\q a b c/\r a b c)(k:∀a b c,p a b c->q a b c->r a b c->C):C:=let ⟨a,b,c,h0,h1,h2⟩:=h;k a b c h0 h1 h2
theorem e34.{u0,u1,u2}{α:Sort u0}{β:Sort u1}{γ:Sort u2}{p q r s:α->β->γ->Prop}{C:Prop}(h:∃a b c,p a b c/\q a b c/\r a b c/\s a b c)(k:∀a b c,p a b c->q a b c->r a b c->s a b c->C):C:=let ⟨a,b,c,h0,h1,h2,h3⟩:=h;k a b c h0 h1 h2 h3
theorem e35.{u0,u1,u2}{α:Sort u0}{β:Sort u1}{γ:Sort u2}{p q r s t:α->β->γ->Prop}{C:Prop}(h:∃a b c,p a b c/\q a b c/\r a b c/\s a b c/\t a b c)(k:∀a b c,p a b c->q a b c->r a b c->s a b c->t a b c->C):C:=let ⟨a,b,c,h0,h1,h2,h3,h4⟩:=h;k a b c h0 h1 h2 h3 h4
theorem e36.{u0,u1,u2}{α:Sort u0}{β:Sort u1}{γ:Sort u2}{p q r s t u:α->β->γ->Prop}{C:Prop}(h:∃a b c,p a b c/\q a b c/\r a b c/\s a b c/\t a b c/\u a b c)(k:∀a b c,p a b c->q a b c->r a b c->s a b c->t a b c->u a b c->C):C:=let ⟨a,b,c,h0,h1,h2,h3,h4,h5⟩:=h;k a b c h0 h1 h2 h3 h4 h5
theorem e43.{u0,u1,u2,u3}{α:Sort u0}{β:Sort u1}{γ:Sort u2}{δ:Sort u3}{p q r:α->β->γ->δ->Prop}{C:Prop}(h:∃a b c d,p a b c d/\q a b c d/\r a b c d)(k:∀a b c d,p a b c d->q a b c d->r a b c d->C):C:=let ⟨a,b,c,d,h0,h1,h2⟩:=h;k a b c d h0 h1 h2
theorem e44.{u0,u1,u2,u3}{α:Sort u0}{β:Sort u1}{γ:Sort u2}{δ:Sort u3}{p q r s:α->β->γ->δ->Prop}{C:Prop}(h:∃a b c d,p a b c d/\q a b c d/\r a b c d/\s a b c d)(k:∀a b c d,p a b c d->q a b c d->r a b c d->s a b c d->C):C:=let ⟨a,b,c,d,h0,h1,h2,h3⟩:=h;k a b c d h0 h1 h2 h3
theorem e46.{u0,u1,u2,u3}{α:Sort u0}{β:Sort u1}{γ:Sort u2}{δ:Sort u3}{p q r s t u:α->β->γ->δ->Prop}{C:Prop}(h:∃a b c d,p a b c d/\q a b c d/\r a b c d/\s a b c d/\t a b c d/\u a b c d)(k:∀a b c d,p a b c d->q a b c d->r a b c d->s a b c d->t a b c d->u a b c d->C):C:=let ⟨a,b,c,d,h0,h1,h2,h3,h4,h5⟩:=h;k a b c d h0 h1 h2 h3 h4 h5
theorem e52.{u0,u1,u2,u3,u4}{α:Sort u0}{β:Sort u1}{γ:Sort u2}{δ:Sort u3}{ε:Sort u4}{p q:α->β->γ->δ->ε->Prop}{C:Prop}(h:∃a b c d e,p a b c d e/\q a b c d e)(k:∀a b c d e,p a b c d e->q a b c d e->C):C:=let ⟨a,b,c,d,e,h0,h1⟩:=h;k a b c d e h0 h1
theorem e53.{u0,u1,u2,u3,u4}{α:Sort u0}{β:Sort u1}{γ:Sort u2}{δ:Sort u3}{ε:Sort u4}{p q r:α->β->γ->δ->ε->Prop}{C:Prop}(h:∃a b c d e,p a b c d e/\q a b c d e/\r a b c d e)(k:∀a b c d e,p a b c d e->q a b c d e->r a b c d e->C):C:=let ⟨a,b,c,d,e,h0,h1,h2⟩:=h;k a b c d e h0 h1 h2
theorem e54.{u0,u1,u2,u3,u4}{α:Sort u0}{β:Sort u1}{γ:Sort u2}{δ:Sort u3}{ε:Sort u4}{p q r s:α->β->γ->δ->ε->Prop}{C:Prop}(h:∃a b c d e,p a b c d e/\q a b c d e/\r a b c d e/\s a b c d e)(k:∀a b c d e,p a b c d e->q a b c d e->r a b c d e->s a b c d e->C):C:=let ⟨a,b,c,d,e,h0,h1,h2,h3⟩:=h;k a b c d e h0 h1 h2 h3
theorem e56.{u0,u1,u2,u3,u4}{α:Sort u0}{β:Sort u1}{γ:Sort u2}{δ:Sort u3}{ε:Sort u4}{p q r s t u:α->β->γ->δ->ε->Prop}{C:Prop}(h:∃a b c d e,p a b c d e/\q a b c d e/\r a b c d e/\s a b c d e/\t a b c d e/\u a b c d e)(k:∀a b c d e,p a b c d e->q a b c d e->r a b c d e->s a b c d e->t a b c d e->u a b c d e->C):C:=let ⟨a,b,c,d,e,h0,h1,h2,h3,h4,h5⟩:=h;k a b c d e h0 h1 h2 h3 h4 h5
theorem Ap{p q C:Prop}(h:p/\q)(k:p->q->C):C:=let ⟨h0,h1⟩:=h;k h0 h1
theorem Br{p q r C:Prop}(h:p/\q/\r)(k:p->q->r->C):C:=let ⟨h0,h1,h2⟩:=h;k h0 h1 h2
theorem EU{p q r s C:Prop}(h:p/\q/\r/\s)(k:p->q->r->s->C):C:=let ⟨h0,h1,h2,h3⟩:=h;k h0 h1 h2 h3
theorem Yr{p q r s t C:Prop}(h:p/\q/\r/\s/\t)(k:p->q->r->s->t->C):C:=let ⟨h0,h1,h2,h3,h4⟩:=h;k h0 h1 h2 h3 h4
theorem Ys{p q r s t u C:Prop}(h:p/\q/\r/\s/\t/\u)(k:p->q->r->s->t->u->C):C:=let ⟨h0,h1,h2,h3,h4,h5⟩:=h;k h0 h1 h2 h3 h4 h5
theorem Yt{p q r s t u v C:Prop}(h:p/\q/\r/\s/\t/\u/\v)(k:p->q->r->s->t->u->v->C):C:=let ⟨h0,h1,h2,h3,h4,h5,h6⟩:=h;k h0 h1 h2 h3 h4 h5 h6
theorem Tn:typeLookup (.type "list") "keys"=pure none:=by rw[typeLookup_type,builtinLookup_eq_fast];kernel_rfl
theorem OX:entryFor table "dict.update.loop"=some Builtin.«dict.update.loop»:=entryFor_of_tree (by kernel_rfl)
set_option tactic.hygienic true in
theorem Tc(hx:s.heap.get? a=some {cls:=.type "list",dict:=none,data:=.seq xs k,slots:=sl})(hA:A.handled=none)
  (h:∀h' tk,(∀b o,s.heap.get? b=some o->h'.get? b=some o)->Q none {s with heap:=h',toks:=tk}):wpAny (model prog w) A (getAttr? (.ref a) "keys") Q E s:=by
 obtain⟨hp,g,d,tk,os⟩:=s;have hT:∀tk',(⟨hp,g,d,tk',os⟩:Shared).TypeIs (.ref a) "list":=λ_=>⟨_,hx,rfl⟩
 have f1:=sub_AttributeError;have f3:=F.slot_list_getattribute.lookup;have f4:=F.slot_list_getattribute.bind (.ref a);have f5:=am_list_getattr_none;unfold getAttr? getAttrBy? getAttrBy
 repeat (any_goals (first|assumption|exact hT _|((with_reducible show wpAny _ _ (call (Value.builtin "list.__getattribute__") _ _) _ _ _);refine call_meets F.slot_list_getattribute (hT _) am_entry_list_getattribute (F.args_list_getattribute_2 _ _) (meets_getattribute_miss_list a xs k sl "keys" _ Tn (by decide +kernel)) ⟨hx,hA,λh' tk' e hx'=>?_⟩)|wp_step))
 refine e21 hx'.there λt' u' he=>?_;unfold getattributeRaised
 repeat (any_goals (first|assumption|wp_step))
 exact h _ _ hx'.keeps
section
variable{prog:Program}{w:World}{K:Type}[DecidableEq K]{knd:KeyKind prog w K}{A:Around}{E:Value->Shared->Prop}
def Sn(knd:KeyKind prog w K)(h:Heap)(d it:Addr)(v:Value)(kv:K×Value):Prop:=∃T key o n,v = .ref T/\(T≠d/\T≠it)/\h.get? T=some o/\o.cls = .type "tuple"/\o.data = .seq #[key,kv.2] n/\knd.is kv.1 key=true
theorem Yw(hh:A.handled=none)(hlen:items.size=kvs.length)(hsz:kvs.length<=sizeLine)(D:l≠it/\l≠d/\d≠it):∀(n i:Nat) (s:Shared),i+n=items.size->s.heap.IsListIter it l i->s.heap.IsList l items->s.heap.DictOf knd d (merged [] (kvs.take i))->
  (∀(j:Nat) v kv,items[j]? =some v->kvs[j]? =some kv->Sn knd s.heap d it v kv)->
  (∀h' tk,h'.DictOf knd d (merged [] kvs)->(∀b o,b≠d->b≠it->s.heap.get? b=some o->h'.get? b=some o)->R (.ok (.ret .none)) {s with heap:=h',toks:=tk})->
  codeAny (model prog w) A (.builtin "dict.update.loop" ⟨[.ref d,.ref it,rawInt i,.none],[]⟩) R s:=by
 intro n
 induction n with
 |zero=>
  intro i s hn hit hl hd hp q;refine codeAny_builtin OX ?_;unfold Builtin.«dict.update.loop»;refine wpAny_bind (wpAny_pyNext_list_end (by exact hh) hit hl (Array.getElem?_eq_none (by lia)) λh' he=>?_);refine wpAny_bind (wpAny_pure (wpAny_pure (q h' s.toks ?_ λb o _ hb e=>he b o hb e)));rw[take_of_length_le (by lia)]at hd;exact e32 hd λo es ep ho r=>⟨o,es,ep,he _ _ D.2.2 ho,r⟩
 |succ n ih=>
  intro i s hn hit hl hd hp q;have hi:i<items.size:=Hu hn
  have hk:i<kvs.length:=Nat.lt_of_lt_of_eq hi hlen
  refine e46 (hp i _ _ (Array.getElem?_eq_getElem hi) (getElem?_eq_getElem hk)) λT key o m hv hT ho hc hdt hkey=>?_;refine codeAny_builtin OX ?_;unfold Builtin.«dict.update.loop»;refine wpAny_bind (wpAny_pyNext_list_item hit hl (Array.getElem?_eq_getElem hi) λh' hit' hs'=>?_);rw[hv];have ho':h'.get? T=some o:=(hs'.2 T hT.2).trans ho;refine wpAny_bind (wpAny_holding (wpAny_bind (wpAny_tryCatch ?_)));unfold Builtin.Dict.pairItems;refine wpAny_bind (wpAny_typeOf (T:="tuple") ⟨_,ho',hc⟩ ?_);rw[if_pos (by decide)];unfold seqItems?;refine wpAny_bind (wpAny_bind (wpAny_load ho' ?_));rw[hdt];refine wpAny_pure (wpAny_pure (wpAny_holding (wpAny_dictSet_pairs hkey (kvs:=merged [] (kvs.take i)) ?_ (λh2 hd2 hs2=>?_) ?_)))
  ·exact e32 hd λod es ep hod r=>⟨od,es,ep,(hs'.2 d D.2.2).trans hod,r⟩
  ·refine wpAny_pure ⟨Code.quiet_builtin _ (by decide +kernel),ih (i+1) _ (by lia) ?_ ?_ ?_ ?_ ?_⟩
   ·exact hit'.at λo e=>(hs2.2 it D.2.2.symm).trans e
   ·exact hl.at λo e=>(hs2.2 l D.2.1).trans ((hs'.2 l D.1).trans e)
   ·rw[merged_take_succ _ _ _ _ (getElem?_eq_getElem hk)];exact hd2
   ·intro j v kv h1 h2;exact e44 (hp j v kv h1 h2) λT key o m hv hT ho r=>⟨T,key,o,m,hv,hT,(hs2.2 T hT.1).trans ((hs'.2 T hT.2).trans ho),r⟩
   ·intro h3 tk hd3 hk3;exact q h3 tk hd3 λb o hb1 hb2 e=>hk3 b o hb1 hb2 ((hs2.2 b hb1).trans ((hs'.2 b hb2).trans e))
  ·have:=merged_length_le ([]:List (K×Value)) (kvs.take i);simp only[length_nil,length_take]at this;exact KC this hsz
theorem Ta(hh:A.handled=none)(hl:s.heap.get? l=some {cls:=.type "list",dict:=none,data:=.seq xs k,slots:=sl})(hlen:xs.size=kvs.length)(hsz:kvs.length<=sizeLine)
  (hp:∀(j:Nat) v kv,xs[j]? =some v->kvs[j]? =some kv->∃T key o n,v = .ref T/\s.heap.get? T=some o/\o.cls = .type "tuple"/\o.data = .seq #[key,kv.2] n/\knd.is kv.1 key=true)
  (h:∀h' tk,h'.DictOf knd s.heap.objs.size (merged [] kvs)->(∀b o,s.heap.get? b=some o->h'.get? b=some o)->Q (.ref s.heap.objs.size) {s with heap:=h',toks:=tk}) :
  wpAny (model prog w) A (call (.type "dict") [.ref l]) Q E s:=by
 refine callType_codes (Q₁:=λobj s₁=>obj = .ref s.heap.objs.size/\s₁= {s with heap:=s.heap.push {cls:=.type "dict",data:=.dict #[]}}) F.kt_called_dict (F.kt_typeCall_dict_1 _) F.entry_dict_init (kt_code_dict_new _ ⟨rfl,rfl⟩) ?_;rintro obj s₁ ⟨rfl,rfl⟩;have hnew:(s.heap.push {cls:=.type "dict",data:=.dict #[]}).DictOf knd s.heap.objs.size []:=Heap.DictOf.new s.heap;have hl':=Heap.get?_push_of_some {cls:=.type "dict",data:=.dict #[]} hl;refine⟨hnew.typeIs,F.args_dict_init_2 _ _,?_⟩;unfold Builtin.«dict.__init__»;refine wpAny_bind ?_;unfold Builtin.Dict.selfAndRest;refine wpAny_bind (wpAny_notOrdered_dict hnew.typeIs (wpAny_pure ?_));show wpAny _ _ (Builtin.Dict.updateFrom "dict.__init__" s.heap.objs.size (.ref l) [] .none) _ _ _;unfold Builtin.Dict.updateFrom;refine wpAny_bind (wpAny_typeOf (T:="list") ⟨_,hl',rfl⟩ ?_);rw[if_pos (by decide)];refine wpAny_bind (Tc hl' (by exact hh) λh1 tk k1=>?_);rw[if_pos (by rfl:(Option.none:Option Value).isNone=true)];have hl1:=k1 l _ hl';have hL1:h1.IsList l xs:=⟨_,hl1,rfl,k,rfl⟩
 have hll:=Heap.lt_size hl;have hd1:h1.DictOf knd s.heap.objs.size []:=by
  exact e32 hnew λo es ep ho r=>⟨o,es,ep,k1 _ _ ho,r⟩
 have hlt:s.heap.objs.size<h1.objs.size:=by
  exact e32 hd1 λo es ep ho r=>Heap.lt_size ho
 refine wpAny_bind (wpAny_rule (wpAny_bind (wpAny_pyIter_list hL1 (wpAny_pure ⟨Code.quiet_builtin _ (by decide +kernel),Yw (knd:=knd) (kvs:=kvs) (by exact hh) hlen hsz ⟨ne_of_lt (lt_trans hll hlt),ne_of_lt hll,ne_of_lt hlt⟩ xs.size 0 _ (zero_add _) ⟨_,Heap.get?_push_size _ rfl,rfl,rfl⟩ (hL1.push _) ?_ ?_ ?_⟩))))
 ·exact hd1.push _
 ·intro j v kv a b;refine e43 (hp j v kv a b) λT key o n z04 ho r=>?_;obtain rfl:=z04;have hT:=Heap.lt_size ho;exact⟨T,key,o,n,rfl,⟨ne_of_lt hT,ne_of_lt (lt_trans hT hlt)⟩,Heap.get?_push_of_some _ (k1 _ _ (Heap.get?_push_of_some _ ho)),r⟩
 ·intro h' tk' hd' hk';refine⟨rfl,h h' tk' hd' λb o e=>hk' b o (ne_of_lt (Heap.lt_size e)) (ne_of_lt (lt_trans (Heap.lt_size e) hlt)) (Heap.get?_push_of_some _ (k1 _ _ (Heap.get?_push_of_some _ e)))⟩
end
@[elab_as_elim] theorem rl {α:Sort u} {a b:α} {p:α->Prop} (h:a=b) (q:p b):p a:=h▸q
theorem Ak{α:Type u}{a b:α}(h:some a=some b):a=b:=Option.some.inj h
theorem AJ{α:Type u}{l:List α}{i:Nat}{a:α}(h:l[i]?=some a):∃h:i<l.length,l[i]=a:=List.getElem?_eq_some_iff.mp h
inductive AV where
 |none
 |bool (b:Bool)
 |int (i:Int)
 |str (s:Str)
 |ref (a:Addr)
 deriving DecidableEq
inductive Sta where
 |opn|dn|fln
 deriving DecidableEq
noncomputable def Sta.str:Sta->Str
 | .opn=>ofString "open"
 | .dn=>ofString "done"
 | .fln=>ofString "fallen"
set_option genInjectivity false in
structure Pc where
 name:Str
 parts:List (Str×Int)
 gains:List (Str×Int)
 needs:List Str
 last:Int
 state:Sta
 inside:List Str
set_option genInjectivity false in
structure Bk where
 day:Int
 free:List (Str×Int)
 aside:List (Str×Int)
 pacts:List Pc
noncomputable def letters:Str:=ofString "abcdefghijklmnopqrstuvwxyz"
noncomputable def A9(s:Str):Bool:=decide (1<=s.length/\s.length<=12)&&s.cps.toList.all λch=>letters.cps.toList.contains ch
noncomputable def lk{α:Type}(l:List (Str×α))(k:Str):Option α:=(l.find? λe=>e.1=k).map (·.2)
noncomputable def pt{α:Type}(l:List (Str×α))(k:Str)(v:α):List (Str×α):=if(lk l k).isSome then l.map (λe=>if e.1=k then(e.1,v) else e) else l++[(k,v)]
inductive AObj where
 |list (xs:List AV)
 |tuple (xs:List AV)
 |dict (ep:Nat) (es:List (Str×AV))
 |inst (c:String) (es:List (String×AV))
 |range (lo hi:Int)
 |vals (d:Addr)
 |exc (c:String)
 |script (ns:List Int)
 |book (B:Bk)
noncomputable def AObj.isB:AObj->Bool
 | .book _=>true
 |_=>false
noncomputable def AObj.isS:AObj->Bool
 | .script _=>true
 |_=>false
noncomputable def AObj.isX:AObj->Bool
 | .script _=>true
 | .exc _=>true
 |_=>false
abbrev Ac:=Addr->Option AObj
noncomputable def up(H:Ac)(a:Addr)(o:AObj):Ac:=λb=>if b=a then some o else H b
abbrev VV:=List (Option AV)
inductive VR:AV->Value->Prop
 |none:VR .none .none
 |bool (b:Bool):VR (.bool b) (.bool b)
 |int (i:Int) (t:Tok):VR (.int i) (.int i t)
 |str (s:Str) (t:Tok) (h:PyData.strOk s=true):VR (.str s) (.str s t)
 |ref (a:Addr):VR (.ref a) (.ref a)
inductive VRs:List AV->List Value->Prop
 |nil:VRs [] []
 |cons {a v as vs}:VR a v->VRs as vs->VRs (a::as) (v::vs)
inductive OVR:Option AV->Option Value->Prop
 |none:OVR Option.none Option.none
 |some {a v}:VR a v->OVR (Option.some a) (Option.some v)
inductive DRs:List (Str×AV)->List (Str×Value)->Prop
 |nil:DRs [] []
 |cons {k a v as vs}:PyData.strOk k=true->VR a v->DRs as vs->DRs ((k,a)::as) ((k,v)::vs)
set_option genCtorIdx false in
set_option genInjectivity false in
inductive Tg where
 |var (i:Nat)
 |tup (is:List Nat)
set_option genInjectivity false in
inductive Pr where
 |len|list|int|range|sum|all|min|max|min3|dict
noncomputable def Pr.str:Pr->String
 | .len=>"len" | .list=>"list" | .int=>"int" | .range=>"range" | .sum=>"sum" | .all=>"all" | .min=>"min" | .max=>"max" | .min3=>"min" | .dict=>"dict"
set_option genInjectivity false in
inductive BM where
 |append|index|count|clear|values|pop|upper|items|remove|extend
noncomputable def BM.str:BM->String
 | .append=>"append" | .index=>"index" | .count=>"count" | .clear=>"clear" | .values=>"values" | .pop=>"pop" | .upper=>"upper" | .items=>"items" | .remove=>"remove" | .extend=>"extend"
set_option genInjectivity false in
inductive X where
 |lit (v:AV)
 |var (i:Nat)
 |glob (n:String)
 |bin (op:Operator) (a b:X)
 |neg (a:X)
 |not (a:X)
 |ao (isAnd:Bool) (xs:List X)
 |cmp (op:CmpOp) (a b:X)
 |cmp2 (op1 op2:CmpOp) (a b c:X)
 |sub (a i:X)
 |slice (a:X) (lo hi st:Option X)
 |attr (a:X) (n:String)
 |call (f:String) (xs:List X)
 |new (c:String) (xs:List X)
 |meth (a:X) (m:String) (xs:List X)
 |bm (a:X) (m:BM) (xs:List X)
 |prim (f:Pr) (xs:List X)
 |isinst (a:X) (c:String)
 |list (xs:List X)
 |tuple (xs:List X)
 |dict (ks vs:List X)
 |comp (e:X) (k:Nat) (tup:Bool) (it:X) (c:Option X)
set_option genCtorIdx false in
set_option genInjectivity false in
inductive T where
 |var (i:Nat)
 |tup (is:List Nat)
 |rtup (is:List Nat)
 |sub (a i:X)
 |attr (a:X) (n:String)
set_option genCtorIdx false in
set_option genInjectivity false in
mutual
inductive S where
 |assign (t:T) (e:X)
 |expr (e:X)
 |ret (e:X)
 |ite (c:X) (a b:List S)
 |while (c:X) (body:List S)
 |for (t:Tg) (it:X) (body:List S)
 |fore (i j:Nat) (a:X) (body:List S)
 |raise (c:String) (msg:Str)
 |try (body:List S) (hs:List Hd)
 |pass
inductive Hd where
 |mk (c:String) (nm:Option Nat) (body:List S)
end
set_option genInjectivity false in
structure Fn where
 npar:Nat
 slots:List String
 body:List S
set_option genInjectivity false in
structure Pg where
 fns:List (String×Fn)
 gfns:List String
 consts:List (String×AV)
 excs:List (String×List String)
 classes:List String
 meths:List (String×String)
 attrs:List (String×String)
 prims:List String
inductive Jq where
 |ns (m:Str->Option Value)
 |cell (v:Option Value)
 |obj (o:Obj)
abbrev RR:=Addr->Option Jq
noncomputable def AY(R:RR)(a:Addr)(r:Jq):RR:=λb=>if b=a then some r else R b
def ResAt(h:Heap)(b:Addr):Jq->Prop
 | .ns m=>h.Ns b m
 | .cell v=>∃o,h.get? b=some o/\o.data = .cell v
 | .obj o=>h.get? b=some o
set_option genInjectivity false in
structure Cx where
 prog:Program
 w:World
 K:Frag
 base:Heap
 P:Pg
 fa:String->Addr
 ca:String->Addr
def DK(es:List (String×AV))(ents:List DictEntry):Prop:=
 match es,ents with
 |[],[]=>True
 |(n,a)::r,e::q=>(∃t,e.key = .str (ofString n) t)/\VR a e.val/\DK r q
 |_,_=>False
def EZ(a b:Int):Prop:=-(2 ^ 62)<a/\a<2 ^ 62/\-(2 ^ 62)<b/\b<2 ^ 62
def ORep(c:Cx)(h:Heap)(D:Addr->Addr)(a:Addr):AObj->Prop
 | .list xs=>∃vs n,h.get? a=some (listOf (vs:List Value).toArray n)/\VRs xs vs
 | .tuple xs=>∃vs n,h.get? a=some {cls:=.type "tuple",data:=.seq (vs:List Value).toArray n}/\VRs xs vs
 | .dict ep es=>∃kvs,h.DictAt (strKind c.prog c.w) a kvs ep/\DRs es kvs
 | .inst cl es=>h.get? a=some (instObj (c.ca cl) (D a))/\∃ents n,h.get? (D a)=some (dictOf ents n)/\DK es ents/\(es.map (·.1)).Nodup
 | .range lo hi=>EZ lo hi/\∃t u v,IsRange h a lo hi 1 t u v
 | .vals d=>h.get? a=some {cls:=.type "dict_values",data:=.fields #[.ref d]}
 | .exc cl=>∃o,h.get? a=some o/\o.cls = .ref (c.ca cl)/\∃vs,o.data = .fields vs
 | .script ns=>∃vs n,h.get? a=some (listOf (vs:List Value).toArray n)/\VRs (ns.map AV.int) vs
 | .book _=>False
def Kr(c:Cx)(a:Addr)(o:AObj):Prop:=(o.isS=false->c.base.get? a=none)/\(o.isX=false->c.base.objs.size<=a)
structure HR(c:Cx)(R:RR)(D:Addr->Addr)(H:Ac)(h:Heap):Prop where
 rep:∀a o,H a=some o->ORep c h D a o
 above:∀a o,H a=some o->Kr c a o/\R a=none
 dict:∀a cl es,H a=some (.inst cl es)->c.base.objs.size<=D a/\R (D a)=none/\H (D a)=none
 inj:∀a b cl es cl' es',H a=some (.inst cl es)->H b=some (.inst cl' es')->D a=D b->a=b
structure St1(c:Cx)(R:RR)(H:Ac)(h:Heap):Prop where
 stays:c.base.StaysIn h
 size:c.base.objs.size<=h.objs.size
 res:∀b r,R b=some r->c.base.objs.size<=b/\ResAt h b r
 rep:∃D,HR c R D H h
inductive Role where
 |self|free|aside|pacts|pact (i:Nat)|inside (i:Nat)|data
noncomputable def dI(l:List (Str×Int)):List (Str×AV):=l.map λe=>(e.1,.int e.2)
def pairsAV(o:Addr->Option Role)(H:Ac):List Addr->List (Str×Int)->Prop
 |[],[]=>True
 |t::ts,e::l=>o t=some .data/\H t=some (.tuple [.str e.1,.int e.2])/\pairsAV o H ts l
 |_,_=>False
def PairsAt(o:Addr->Option Role)(H:Ac)(p:Addr)(l:List (Str×Int)):Prop:=o p=some .data/\∃ts:List Addr,H p=some (.list (ts.map .ref))/\pairsAV o H ts l
structure IsPact(o:Addr->Option Role)(H:Ac)(i:Nat)(a:Addr)(q:Pc):Prop where
 own:o a=some (.pact i)
 at_:∃pa ga ne ins ep,H a=some (.inst "Pact" [("name",.str q.name),("parts",.ref pa),("gains",.ref ga),("needs",.ref ne),("last",.int q.last),("state",.str q.state.str),("inside",.ref ins)])/\
  PairsAt o H pa q.parts/\PairsAt o H ga q.gains/\o ne=some .data/\H ne=some (.list (q.needs.map .str))/\o ins=some (.inside i)/\H ins=some (.dict ep (q.inside.map λk=>(k,.bool true)))
def pactsAt(o:Addr->Option Role)(H:Ac):Nat->List Addr->List Pc->Prop
 |_,[],[]=>True
 |i,a::as,q::qs=>IsPact o H i a q/\pactsAt o H (i+1) as qs
 |_,_,_=>False
noncomputable def dP:List Pc->List Addr->List (Str×AV)
 |q::qs,a::as=>(q.name,.ref a)::dP qs as
 |_,_=>[]
structure IsBook(o:Addr->Option Role)(H:Ac)(b f s p:Addr)(as:List Addr)(B:Bk):Prop where
 ob:o b=some .self
 of:o f=some .free
 os:o s=some .aside
 op:o p=some .pacts
 hb:H b=some (.inst "Book" [("day",.int B.day),("free",.ref f),("aside",.ref s),("pacts",.ref p)])
 hf:∃ep,H f=some (.dict ep (dI B.free))
 hs:∃ep,H s=some (.dict ep (dI B.aside))
 hp:∃ep,H p=some (.dict ep (dP B.pacts as))
 ps:pactsAt o H 0 as B.pacts
noncomputable def Cu(o:Addr->Option (Addr×Role))(b:Addr):Addr->Option Role:=λa=>match o a with
 |some (c,r)=>if c=b then some r else none
 |none=>none
def Real(H H₁:Ac):Prop:=(∀a x,H₁ a=some x->x.isB=false)/\∃o:Addr->Option (Addr×Role),∀a x,H a=some x->(x.isB=false/\H₁ a=some x/\o a=none)\/∃B f s p as,x = .book B/\IsBook (Cu o a) H₁ a f s p as B
def St(c:Cx)(R:RR)(H:Ac)(h:Heap):Prop:=∃H₁,St1 c R H₁ h/\Real H H₁
def Sm(s s':Shared):Prop:=∃h tk,s'= {s with heap:=h,toks:=tk}
structure Ks(R:RR)(e:Env):Prop where
 kind:e.scope.kind = .function
 frame:e.frame=some e.locals
 gen:e.scope.isGenerator=false
 co:e.scope.isCoroutine=false
 blt:e.builtins=builtinsNs
 glob:e.globals=mainGlobals
 ns:∃m,R e.locals=some (.ns m)
def Dx(R:RR)(stk:List Env):Prop:=∀e∈stk,Ks R e
structure Nh(k n:Nat)(md:Bool)(A:Around)(stk:List Env):Prop where
 frames:A.frames=some stk
 depth:A.depth+110+k+8*n<recursionLimit
 units:A.units+100+10*k+60*n<cLine
 hand:md=true->A.handled=none
inductive ExcAt(c:Cx)(R:RR)(H:Ac)(h:Heap)(e:Addr)(cls:Value):Value->Prop
 |fresh {t:Addr}:h.get? e=some {cls:=cls,data:=.fields #[.ref t,.none,.none,.none,.bool false,.none]}->ExcAt c R H h e cls .ellipsis
 |traced {oe:Obj} {vs:Array Value} {T:Addr} {oT:Obj} {ts:Array Value} {fl a0:Value}:h.get? e=some oe->oe.cls=cls->oe.data = .fields vs->vs[0]? =some a0->vs[1]? =some (.ref T)->T≠e->
   R T=none->H T=none->c.base.get? T=none->h.get? T=some oT->oT.data = .fields ts->ts[3]? =some fl->fl≠.ellipsis->ExcAt c R H h e cls fl
structure ExcSt1(c:Cx)(R:RR)(H:Ac)(e:Addr)(cl:String)(fl:Value)(h:Heap):Prop where
 st:St1 c R H h
 re:R e=none
 he:H e=none
 be:c.base.get? e=none
 ob:ExcAt c R H h e (.ref (c.ca cl)) fl
 kn:(c.P.excs.lookup cl).isSome=true
def ExcSt(c:Cx)(R:RR)(H:Ac)(e:Addr)(cl:String)(fl:Value)(h:Heap):Prop:=∃H₁,ExcSt1 c R H₁ e cl fl h/\Real H H₁
def CallOK(c:Cx)(n:Nat)(md:Bool)(f:String)(args:List AV)(Q:AV->Ac->Prop)(E:String->Ac->Prop)(H:Ac):Prop:=
 ∀(A:Around) (stk:List Env) (R:RR) (s:Shared) (vals:List Value) (Rs:Result->Shared->Prop),
  Nh 0 n md A stk->Dx R stk->St c R H s.heap->VRs args vals->
  (∀av v s' H',VR av v->St c R H' s'.heap->Sm s s'->Q av H'->Rs (.ok (.ret v)) s')->
  (∀e cl s' H',ExcSt c R H' e cl .none s'.heap->Sm s s'->E cl H'->Rs (.error (.ref e)) s')->
  codeAny (model c.prog c.w) A (.call (.ref (c.fa f)) ⟨vals,[]⟩) Rs s
mutual
inductive RD(H:Ac):AV->PyData->Prop
 |none:RD H .none .none
 |bool (b:Bool):RD H (.bool b) (.bool b)
 |int (i:Int):RD H (.int i) (.int i)
 |str (s:Str):RD H (.str s) (.str s)
 |list {a xs ds}:H a=some (.list xs)->DX H xs ds->RD H (.ref a) (.list ds)
 |tuple {a xs ds}:H a=some (.tuple xs)->DX H xs ds->RD H (.ref a) (.tuple ds)
inductive DX(H:Ac):List AV->List PyData->Prop
 |nil:DX H [] []
 |cons {a d as ds}:RD H a d->DX H as ds->DX H (a::as) (d::ds)
end
mutual
noncomputable def Fr:PyData->Bool
 | .none| .bool _| .int _| .str _=>true
 | .list xs| .tuple xs=>Dr xs
 | .dict _=>false
noncomputable def Dr:List PyData->Bool
 |[]=>true
 |x::xs=>Fr x&&Dr xs
end
def Ex(d:PyData):Prop:=Fr d=true/\d.depth<=64
noncomputable def Dj(n:Nat)(i:Int):Option Nat:=
 if 0<=i then(if i<n then some i.toNat else none) else if -(n:Int)<=i then some (i+n).toNat else none
noncomputable def Bb(es:List (Str×AV))(k:Str):Option AV:=(es.find? λe=>e.1=k).map (·.2)
noncomputable def AI(es:List (Str×AV))(k:Str)(v:AV):List (Str×AV):=
 if(Bb es k).isSome then es.map (λe=>if e.1=k then(e.1,v) else e) else es++[(k,v)]
noncomputable def C5(es:List (String×AV))(k:String):Option AV:=(es.find? λe=>e.1=k).map (·.2)
noncomputable def Cv(es:List (String×AV))(k:String)(v:AV):List (String×AV):=
 if(C5 es k).isSome then es.map (λe=>if e.1=k then(e.1,v) else e) else es++[(k,v)]
def BF(v:AV)(H:Ac)(Q:Bool->Prop):Prop:=
 match v with
 | .none=>Q false
 | .bool b=>Q b
 | .int i=>Q (i != 0)
 | .str s=>s.length<2 ^ 62/\Q (s.length != 0)
 | .ref a=>match H a with
  |some (.list xs)=>xs.length<2 ^ 62/\Q (!xs.isEmpty)
  |some (.tuple xs)=>xs.length<2 ^ 62/\Q (!xs.isEmpty)
  |_=>False
def F5(a b:AV)(P:Int->Int->Prop):Prop:=match a,b with
 | .int x,.int y=>P x y
 |_,_=>False
def BJ(op:Operator)(a b:AV)(Q:AV->Ac->Prop)(H:Ac):Prop:=
 match op with
 | .Add=>(match a,b with
  | .int x,.int y=>Q (.int (x+y)) H
  | .str x,.str y=>x.length+y.length<=sizeLine/\Q (.str (x++y)) H
  | .ref x,.ref y=>(match H x,H y with
   |some (.list xs),some (.list ys)=>xs.length+ys.length<=sizeLine/\∀z,H z=none->Q (.ref z) (up H z (.list (xs++ys)))
   |_,_=>False)
  |_,_=>False)
 | .Sub=>F5 a b λx y=>Q (.int (x - y)) H
 | .Mult=>(match a,b with
  | .ref p,.int k=>(match H p with
   |some (.list xs)=>(k=0\/k=1)/\xs.length<=sizeLine/\∀z,H z=none->Q (.ref z) (up H z (.list (if k=1 then xs else[])))
   |_=>False)
  |a,b=>F5 a b λx y=>IntMulOk x y/\Q (.int (x*y)) H)
 | .FloorDiv=>F5 a b λx y=>y≠0/\Q (.int (x.fdiv y)) H
 | .Mod=>F5 a b λx y=>y≠0/\Q (.int (x.fmod y)) H
 | .Pow=>F5 a b λx y=>(2<=x/\1<=y/\Builtin.Int.intTooBig (((Builtin.Int.intBits x:Nat):Int)*y)=false)/\Q (.int (x ^ y.toNat)) H
 |_=>False
noncomputable def nt(n b:Bool):Bool:=match n with
 |true=>!b
 |false=>b
theorem nt_eq:(b != n)=nt n b:=by cases n<;>cases b<;>rfl
def FT(ne:Bool)(a b:AV)(Q:AV->Ac->Prop)(H:Ac):Prop:=
 match a,b with
 | .int x,.int y=>Q (.bool (nt ne (x==y))) H
 | .str x,.str y=>Q (.bool (nt ne (x==y))) H
 |a,b=>∃da db,RD H a da/\RD H b db/\Ex da/\Ex db/\Q (.bool (nt ne (PyData.eqv da db))) H
def win(no:Bool)(x cc:AV)(Q:AV->Ac->Prop)(H:Ac):Prop:=
 match cc with
 | .ref a=>match H a with
  |some (.list ys)=>∃d ds,RD H x d/\DX H ys ds/\Ex d/\Dr ds=true/\Q (.bool (nt no (ds.any λy=>PyData.eqv y d))) H
  |some (.dict _ es)=>match x with
   | .str k=>Q (.bool (nt no (Bb es k).isSome)) H
   |_=>False
  |_=>False
 | .str s=>match x with
  | .str k=>∃ch,k=⟨#[ch]⟩/\Q (.bool (nt no (s.cps.toList.contains ch))) H
  |_=>False
 |_=>False
def AA(op:CmpOp)(a b:AV)(Q:AV->Ac->Prop)(H:Ac):Prop:=
 match op with
 | .Eq=>FT false a b Q H
 | .NotEq=>FT true a b Q H
 | .In=>win false a b Q H
 | .NotIn=>win true a b Q H
 | .Is=>match b with
  | .none=>Q (.bool (a==.none)) H
  | .bool c=>Q (.bool (a==.bool c)) H
  |_=>False
 | .IsNot=>match b with
  | .none=>Q (.bool (a != .none)) H
  | .bool c=>Q (.bool (a != .bool c)) H
  |_=>False
 |op=>match a,b with
  | .int x,.int y=>match op with
   | .Lt=>Q (.bool (decide (x<y))) H
   | .LtE=>Q (.bool (decide (x<=y))) H
   | .Gt=>Q (.bool (decide (y<x))) H
   | .GtE=>Q (.bool (decide (y<=x))) H
   |_=>False
  |_,_=>False
def A8(a i:AV)(Q:AV->Ac->Prop)(H:Ac):Prop:=
 match a,i with
 | .ref a,.int i=>match H a with
  |some (.list xs)=>∃j v,Dj xs.length i=some j/\i<2 ^ 63/\-(2 ^ 63)<=i/\xs[j]? =some v/\Q v H
  |some (.tuple xs)=>∃j v,Dj xs.length i=some j/\i<2 ^ 63/\-(2 ^ 63)<=i/\xs[j]? =some v/\Q v H
  |some (.script ns)=>0<=i/\i<2 ^ 63/\∃n,ns[i.toNat]? =some n/\Q (.int n) H
  |_=>False
 | .ref a,.str k=>match H a with
  |some (.dict _ es)=>∃v,Bb es k=some v/\Q v H
  |_=>False
 | .str s,.int i=>0<=i/\i<2 ^ 63/\∃ch,s.cps[i.toNat]? =some ch/\Q (.str ⟨#[ch]⟩) H
 |_,_=>False
noncomputable def DO{α:Type}(xs:List α)(lo hi st:Option Int):List α:=
 (sliceRange (sliceBounds lo hi st xs.length).1 (sliceBounds lo hi st xs.length).2.1 (sliceBounds lo hi st xs.length).2.2).filterMap (xs[·]?)
noncomputable def EQ:Option AV->Option (Option Int)
 |none=>some none
 |some (.int i)=>some (some i)
 |_=>none
def EK(a:AV)(lo hi st:Option AV)(Q:AV->Ac->Prop)(H:Ac):Prop:=
 match a with
 | .ref a=>(match H a with
  |some (.list xs)=>∃l u t,EQ lo=some l/\EQ hi=some u/\EQ st=some t/\t≠some 0/\xs.length<=sizeLine/\∀z,H z=none->Q (.ref z) (up H z (.list (DO xs l u t)))
  |_=>False)
 | .str s=>(match lo,hi,st with
  |some (.int l),none,none=>0<=l/\l<=s.length/\s.length<=sizeLine/\Q (.str ⟨(s.cps.toList.drop l.toNat).toArray⟩) H
  |none,some (.int u),none=>0<=u/\u<=s.length/\s.length<=sizeLine/\Q (.str ⟨(s.cps.toList.take u.toNat).toArray⟩) H
  |_,_,_=>False)
 |_=>False
noncomputable def DA(H:Ac)(v:AV):Option String:=
 match v with
 | .none=>some "NoneType"
 | .bool _=>some "bool"
 | .int _=>some "int"
 | .str _=>some "str"
 | .ref a=>match H a with
  |some (.list _)=>some "list"
  |some (.tuple _)=>some "tuple"
  |some (.dict ..)=>some "dict"
  |_=>none
noncomputable def DH(P:Pg)(H:Ac)(v:AV)(ty:String):Option Bool:=
 if ty="int"\/ty="bool"\/ty="str"\/ty="list" then(DA H v).map λk=>k==ty||(k=="bool"&&ty=="int")
 else none
def Ct(vs:List AV)(k:AV->Prop):Prop:=match vs with
 |[]=>False
 |v::r=>match r with
  |[]=>k v
  |_::_=>False
def Hg(o:AV)(H:Ac)(k:Addr->List AV->Prop):Prop:=match o with
 | .ref p=>(match H p with
  |some (.list xs)=>k p xs
  |_=>False)
 |_=>False
def MU(o:AV)(H:Ac)(k:Addr->List (Str×AV)->Prop):Prop:=match o with
 | .ref p=>(match H p with
  |some (.dict _ es)=>k p es
  |_=>False)
 |_=>False
def G3(v:AV)(Q:AV->Ac->Prop)(H:Ac):Prop:=match v with
 | .str s=>s.length<2 ^ 62/\Q (.int s.length) H
 | .ref a=>(match H a with
   |some (.list xs)=>xs.length<2 ^ 62/\Q (.int xs.length) H
   |some (.tuple xs)=>xs.length<2 ^ 62/\Q (.int xs.length) H
   |some (.dict _ es)=>es.length<2 ^ 62/\Q (.int es.length) H
   |some (.script ns)=>ns.length<2 ^ 62/\Q (.int ns.length) H
   |_=>False)
 |_=>False
def XP(md:Bool)(v:AV)(Q:AV->Ac->Prop)(H:Ac):Prop:=match v with
 | .ref a=>(match H a with
   |some (.list xs)=>xs.length<=sizeLine/\∀z,H z=none->Q (.ref z) (up H z (.list xs))
   |some (.tuple xs)=>xs.length<=sizeLine/\∀z,H z=none->Q (.ref z) (up H z (.list xs))
   |some (.dict _ es)=>md=true/\es.length<=sizeLine/\∀z,H z=none->Q (.ref z) (up H z (.list (es.map λe=>.str e.1)))
   |some (.vals d)=>(match H d with
    |some (.dict _ es)=>md=true/\es.length<=sizeLine/\∀z,H z=none->Q (.ref z) (up H z (.list (es.map (·.2))))
    |_=>False)
   |_=>False)
 |_=>False
def Ng(v:AV)(Q:AV->Ac->Prop)(H:Ac):Prop:=match v with
 | .ref a=>(match H a with
   |some (.list xs)=>∃ns:List Int,xs=ns.map .int/\Q (.int ns.sum) H
   |_=>False)
 |_=>False
def MZ(a:AV)(k:Int->Prop):Prop:=match a with
 | .int x=>k x
 |_=>False
def Nd(vs:List AV)(k:Int->Int->Prop):Prop:=match vs with
 |[]=>False
 |a::r=>Ct r λb=>F5 a b k
inductive PairsL(H:Ac):List AV->List (Str×AV)->Prop
 |nil:PairsL H [] []
 |cons {T:Addr} {k:Str} {v:AV} {xs:List AV} {es:List (Str×AV)} (h:H T=some (.tuple [.str k,v])) (r:PairsL H xs es):PairsL H (.ref T::xs) ((k,v)::es)
def BS(md:Bool)(f:Pr)(vs:List AV)(Q:AV->Ac->Prop)(H:Ac):Prop:=
 match f with
 | .len=>Ct vs λv=>G3 v Q H
 | .list=>Ct vs λv=>XP md v Q H
 | .int=>Ct vs λv=>match v with
  | .bool b=>Q (.int (if b then 1 else 0)) H
  |_=>False
 | .range=>match vs with
  |[]=>False
  |a::r=>match r with
   |[]=>MZ a λb=>(-(2 ^ 62)<b/\b<2 ^ 62)/\∀z,H z=none->Q (.ref z) (up H z (.range 0 b))
   |_::_=>Ct r λb=>F5 a b λa b=>(-(2 ^ 62)<a/\a<2 ^ 62/\-(2 ^ 62)<b/\b<2 ^ 62)/\∀z,H z=none->Q (.ref z) (up H z (.range a b))
 | .sum=>Ct vs λv=>md=true/\Ng v Q H
 | .min=>Nd vs λa b=>md=true/\Q (.int (if b<a then b else a)) H
 | .max=>Nd vs λa b=>md=true/\Q (.int (if a<b then b else a)) H
 | .dict=>Ct vs λv=>md=true/\Hg v H λ_ xs=>∃es,xs.length<=sizeLine/\PairsL H xs es/\(es.map (·.1)).Nodup/\∀z ep,H z=none->Q (.ref z) (up H z (.dict ep es))
 |_=>False
noncomputable def bookAttrs:List String:=["day","free","aside","pacts"]
def FS(o:AV)(m:BM)(vs:List AV)(Q:AV->Ac->Prop)(H:Ac):Prop:=
 match m with
 | .append=>Ct vs λv=>Hg o H λp xs=>xs.length<=sizeLine/\Q .none (up H p (.list (xs++[v])))
 | .values=>match vs with
  |[]=>MU o H λp _=>∀z,H z=none->Q (.ref z) (up H z (.vals p))
  |_::_=>False
 | .extend=>Ct vs λv=>Hg o H λp xs=>Hg v H λ_ ys=>xs.length+ys.length<=sizeLine/\Q .none (up H p (.list (xs++ys)))
 |_=>False
noncomputable def B6(H:Ac):AV->Option (List AV)
 | .ref a=>match H a with
  |some (.list xs)=>some xs
  |some (.tuple xs)=>some xs
  |some (.range lo hi)=>some ((List.range (hi - lo).toNat).map λ(k:Nat)=>AV.int (lo+k))
  |some (.dict _ es)=>some (es.map λe=>AV.str e.1)
  |_=>none
 | .str s=>some (s.cps.toList.map λch=>AV.str ⟨#[ch]⟩)
 |_=>none
def DM(H H':Ac):AV->Prop
 | .ref a=>H' a=H a
 |_=>True
def Bq(QN:VV->Ac->Prop)(stp:AV->(VV->Ac->Prop)->VV->Ac->Prop)(v:AV)(V:VV)(H:Ac):Prop:=
 ∃xs,B6 H v=some xs/\∃I:Nat->VV->Ac->Prop,I 0 V H/\
  ∀k V' H',I k V' H'->DM H H' v/\(k=xs.length->QN V' H')/\∀x,xs[k]? =some x->stp x (I (k+1)) V' H'
def NG(QN:VV->Ac->Prop)(stp:AV->AV->(VV->Ac->Prop)->VV->Ac->Prop)(x:AV)(V:VV)(H:Ac):Prop:=
 ∃a xs,x = .ref a/\H a=some (.list xs)/\∃I:Nat->VV->Ac->Prop,I 0 V H/\
  ∀k V' H',I k V' H'->H' a=some (.list xs)/\(k=xs.length->QN V' H')/\∀v,xs[k]? =some v->stp (.int k) v (I (k+1)) V' H'
def MD(QN:VV->Ac->Prop)(tst:(Bool->Ac->Prop)->VV->Ac->Prop)(bd:(VV->Ac->Prop)->VV->Ac->Prop)(V:VV)(H:Ac):Prop:=
 ∃I:Nat->VV->Ac->Prop,(∃n,I n V H)/\∀n V' H',I n V' H'->tst (λb H''=>if b then bd (λV₂ H₂=>∃m,m<n/\I m V₂ H₂) V' H'' else QN V' H'') V' H'
def Kj(Q:AV->Ac->Prop)(stp:AV->(Option AV->Ac->Prop)->Ac->Prop)(v:AV)(H:Ac):Prop:=
 ∃xs,B6 H v=some xs/\xs.length<=sizeLine/\∃I:Nat->List AV->Ac->Prop,I 0 [] H/\
  ∀k acc H',I k acc H'->DM H H' v/\(k=xs.length->∀a,H' a=none->Q (.ref a) (up H' a (.list acc)))/\
   ∀x,xs[k]? =some x->stp x (λr H''=>I (k+1) (acc++r.toList) H'') H'
def CI(k:Nat)(x:AV)(H:Ac)(Q:List AV->Prop):Prop:=
 match x with
 | .ref a=>match H a with
  |some (.tuple xs)=>xs.length=k/\Q xs
  |some (.list xs)=>xs.length=k/\Q xs
  |_=>False
 |_=>False
noncomputable def Fi(V:VV):List Nat->List AV->VV
 |i::is,x::xs=>Fi (V.set i (some x)) is xs
 |_,_=>V
def B_(t:Tg)(x:AV)(V:VV)(H:Ac)(Q:VV->Prop):Prop:=
 match t with
 | .var i=>i<V.length/\Q (V.set i (some x))
 | .tup is=>CI is.length x H λxs=>Q (Fi V is xs)
def Fs(m:BM)(x:AV)(H:Ac):Prop:=
 match x with
 | .str _=>m = .upper
 | .ref p=>match H p with
  |some (.list _)=>m = .append\/m = .clear\/m = .index\/m = .count\/m = .remove\/m = .extend
  |some (.dict _ _)=>m = .values\/m = .pop\/m = .items
  |_=>False
 |_=>False
set_option genInjectivity false in
structure Gx where
 c:Cx
 n:Nat
 md:Bool
def Kd(P:Pg)(n:String)(x:AV)(Q:AV->Ac->Prop)(H:Ac):Prop:=match x with
 | .ref p=>(match H p with
  |some (.inst cl es)=>P.attrs.contains (cl,n)=true/\(match C5 es n with|some v=>Q v H|none=>False)
  |some (.book B)=>n="day"/\P.attrs.contains ("Book","day")=true/\Q (.int B.day) H
  |_=>False)
 |_=>False
def Kc(P:Pg)(m:String)(x:AV)(K:String->Addr->Ac->Prop)(H:Ac):Prop:=match x with
 | .ref p=>(match H p with
  |some (.inst cl es)=>P.meths.contains (cl,m)=true/\C5 es m=none/\K (cl++"."++m) p H
  |some (.book _)=>P.meths.contains ("Book",m)=true/\bookAttrs.contains m=false/\K ("Book."++m) p H
  |_=>False)
 |_=>False
def G2(P:Pg)(ty:String)(x:AV)(Q:AV->Ac->Prop)(H:Ac):Prop:=match DH P H x ty with
 |some b=>Q (.bool b) H
 |none=>False
def So(o j x:AV)(Q:Ac->Prop)(H:Ac):Prop:=match o,j with
 | .ref p,.str k=>(match H p with
  |some (.dict _ es)=>es.length<=sizeLine/\∀ep,Q (up H p (.dict ep (AI es k x)))
  |_=>False)
 |_,_=>False
def Sp(P:Pg)(n:String)(o x:AV)(Q:Ac->Prop)(H:Ac):Prop:=match o with
 | .ref p=>(match H p with
  |some (.inst cl es)=>P.attrs.contains (cl,n)=true/\es.length<=100/\Q (up H p (.inst cl (Cv es n x)))
  |_=>False)
 |_=>False
mutual
def Aj(g:Gx):X->VV->(AV->Ac->Prop)->(String->Ac->Prop)->Ac->Prop
 | .lit v,_,Q,_,H=>Q v H
 | .var i,V,Q,_,H=>match V[i]? with
  |some (some v)=>Q v H
  |_=>False
 | .glob n,_,Q,_,H=>match g.c.P.consts.lookup n with
  |some v=>Q v H
  |none=>False
 | .bin op a b,V,Q,E,H=>Aj g a V (λx H=>Aj g b V (λy H=>BJ op x y Q H) E H) E H
 | .neg a,V,Q,E,H=>Aj g a V (λx H=>match x with| .int i=>Q (.int (-i)) H|_=>False) E H
 | .not a,V,Q,E,H=>Aj g a V (λx H=>BF x H λb=>Q (.bool (!b)) H) E H
 | .ao isAnd xs,V,Q,E,H=>BN g isAnd xs V Q E H
 | .cmp op a b,V,Q,E,H=>Aj g a V (λx H=>Aj g b V (λy H=>AA op x y Q H) E H) E H
 | .cmp2 op1 op2 a b d,V,Q,E,H=>Aj g a V (λx H=>Aj g b V (λy H=>AA op1 x y (λr H=>BF r H λt=>
   if t then Aj g d V (λz H=>AA op2 y z Q H) E H else Q r H) H) E H) E H
 | .sub a i,V,Q,E,H=>Aj g a V (λx H=>Aj g i V (λy H=>A8 x y Q H) E H) E H
 | .slice a lo hi st,V,Q,E,H=>Aj g a V (λx H=>F6 g lo V (λl H=>F6 g hi V (λu H=>F6 g st V (λt H=>EK x l u t Q H) E H) E H) E H) E H
 | .attr a n,V,Q,E,H=>Aj g a V (λx H=>Kd g.c.P n x Q H) E H
 | .call f xs,V,Q,E,H=>Ay g xs V (λvs H=>CallOK g.c g.n g.md f vs Q E H) E H
 | .new cl xs,V,Q,E,H=>Ay g xs V (λvs H=>∀a,H a=none->CallOK g.c g.n g.md (cl++".__init__") (.ref a::vs) (λr H=>r = .none/\Q (.ref a) H) E (up H a (.inst cl []))) E H
 | .meth a m xs,V,Q,E,H=>Aj g a V (λx H=>Kc g.c.P m x (λf p H=>Ay g xs V (λvs H=>CallOK g.c g.n g.md f (.ref p::vs) Q E H) E H) H) E H
 | .bm a m xs,V,Q,E,H=>Aj g a V (λx H=>Fs m x H/\Ay g xs V (λvs H=>FS x m vs Q H) E H) E H
 | .prim f xs,V,Q,E,H=>Ay g xs V (λvs H=>BS g.md f vs Q H) E H
 | .isinst a ty,V,Q,E,H=>Aj g a V (λx H=>G2 g.c.P ty x Q H) E H
 | .list xs,V,Q,E,H=>Ay g xs V (λvs H=>∀a,H a=none->Q (.ref a) (up H a (.list vs))) E H
 | .tuple xs,V,Q,E,H=>Ay g xs V (λvs H=>∀a,H a=none->Q (.ref a) (up H a (.tuple vs))) E H
 | .dict ks vs,V,Q,E,H=>match ks,vs with
  |[],[]=>∀a,H a=none->Q (.ref a) (up H a (.dict 0 []))
  |[k],[v]=>Aj g k V (λk H=>Aj g v V (λv H=>match k with| .str k=>∀a ep,H a=none->Q (.ref a) (up H a (.dict ep [(k,v)]))|_=>False) E H) E H
  |_,_=>False
 | .comp e k tup it c,V,Q,E,H=>g.md=true/\Aj g it V (λv H=>Kj Q (λx nx H=>
   if tup then CI k x H λxs=>EX g c (V++xs.map some) (λb H=>if b then Aj g e (V++xs.map some) (λy H=>nx (some y) H) (λ_ _=>False) H else nx none H) (λ_ _=>False) H
   else EX g c (V++[some x]) (λb H=>if b then Aj g e (V++[some x]) (λy H=>nx (some y) H) (λ_ _=>False) H else nx none H) (λ_ _=>False) H) v H) E H
def Ay(g:Gx):List X->VV->(List AV->Ac->Prop)->(String->Ac->Prop)->Ac->Prop
 |[],_,Q,_,H=>Q [] H
 |x::r,V,Q,E,H=>Aj g x V (λv H=>Ay g r V (λvs H=>Q (v::vs) H) E H) E H
def BN(g:Gx)(isAnd:Bool):List X->VV->(AV->Ac->Prop)->(String->Ac->Prop)->Ac->Prop
 |[],_,_,_,_=>False
 |x::r,V,Q,E,H=>Aj g x V (λv H=>match r with
   |[]=>Q v H
   |_::_=>BF v H λb=>if b=isAnd then BN g isAnd r V Q E H else Q v H) E H
def F6(g:Gx):Option X->VV->(Option AV->Ac->Prop)->(String->Ac->Prop)->Ac->Prop
 |none,_,Q,_,H=>Q none H
 |some x,V,Q,E,H=>Aj g x V (λv H=>Q (some v) H) E H
def EX(g:Gx):Option X->VV->(Bool->Ac->Prop)->(String->Ac->Prop)->Ac->Prop
 |none,_,Q,_,H=>Q true H
 |some x,V,Q,E,H=>Aj g x V (λv H=>BF v H λb=>Q b H) E H
end
def DT(g:Gx)(t:T)(x:AV)(V:VV)(Q:VV->Ac->Prop)(E:String->Ac->Prop)(H:Ac):Prop:=
 match t with
 | .var i=>i<V.length/\Q (V.set i (some x)) H
 | .tup is=>g.md=true/\CI is.length x H λxs=>Q (Fi V is xs) H
 | .rtup is=>g.md=true/\CI is.length x H λxs=>Q (Fi V is.reverse xs.reverse) H
 | .sub a i=>Aj g a V (λo H=>Aj g i V (λj H=>So o j x (Q V) H) E H) E H
 | .attr a n=>Aj g a V (λo H=>Sp g.c.P n o x (Q V) H) E H
noncomputable def Gl(P:Pg)(cl c:String):Bool:=((P.excs.lookup cl).map (·.contains c)).getD false
mutual
def A4(g:Gx):S->(VV->Ac->Prop)->(AV->Ac->Prop)->(String->VV->Ac->Prop)->VV->Ac->Prop
 | .assign t e,QN,_,E,V,H=>Aj g e V (λx H=>DT g t x V QN (λcl H=>E cl V H) H) (λcl H=>E cl V H) H
 | .expr e,QN,_,E,V,H=>Aj g e V (λ_ H=>QN V H) (λcl H=>E cl V H) H
 | .ret e,_,QR,E,V,H=>Aj g e V QR (λcl H=>E cl V H) H
 | .ite c a b,QN,QR,E,V,H=>Aj g c V (λx H=>BF x H λt=>if t then Af g a QN QR E V H else Af g b QN QR E V H) (λcl H=>E cl V H) H
 | .while c body,QN,QR,E,V,H=>g.md=true/\MD QN (λq V H=>Aj g c V (λx H=>BF x H λt=>q t H) (λcl H=>E cl V H) H)
   (λq V H=>Af g body q QR E V H) V H
 | .for t it body,QN,QR,E,V,H=>g.md=true/\Aj g it V (λv H=>Bq QN (λx nx V H=>B_ t x V H λV=>Af g body nx QR E V H) v V H) (λcl H=>E cl V H) H
 | .fore i j a body,QN,QR,E,V,H=>g.md=true/\Aj g a V (λx H=>NG QN (λu v nx V H=>Af g body nx QR E ((V.set i (some u)).set j (some v)) H) x V H) (λcl H=>E cl V H) H
 | .raise cl _,_,_,E,V,H=>g.md=true/\E cl V H
 | .try body hs,QN,QR,E,V,H=>g.md=true/\Af g body QN QR (λcl V H=>Da g hs cl QN QR E V H) V H
 | .pass,QN,_,_,V,H=>QN V H
def Af(g:Gx):List S->(VV->Ac->Prop)->(AV->Ac->Prop)->(String->VV->Ac->Prop)->VV->Ac->Prop
 |[],QN,_,_,V,H=>QN V H
 |s::r,QN,QR,E,V,H=>A4 g s (λV H=>Af g r QN QR E V H) QR E V H
def Da(g:Gx):List Hd->String->(VV->Ac->Prop)->(AV->Ac->Prop)->(String->VV->Ac->Prop)->VV->Ac->Prop
 |[],_,_,_,_,_,_=>False
 |h::r,cl,QN,QR,E,V,H=>Nf g h cl (Da g r cl QN QR E V H) QN QR E V H
def Nf(g:Gx):Hd->String->Prop->(VV->Ac->Prop)->(AV->Ac->Prop)->(String->VV->Ac->Prop)->VV->Ac->Prop
 | .mk c nm b,cl,nope,QN,QR,_,V,H=>
  if Gl g.c.P cl c then
   (match nm with
   |none=>Af {g with md:=false} b QN QR (λ_ _ _=>False) V H
   |some i=>∀a,H a=none->i<V.length/\Af {g with md:=false} b (λV H=>QN (V.set i none) H) QR (λ_ _ _=>False) (V.set i (some (.ref a))) (up H a (.exc cl)))
  else nope
end
theorem Aw:(x::r)[0]? =some x:=rfl
theorem Aq:Aj g (.lit v) V Q E H=Q v H:=rfl
theorem Ad:Aj g (.var i) V Q E H=(match V[i]? with|some (some v)=>Q v H|_=>False):=rfl
theorem Av:Aj g (.bin op a b) V Q E H=Aj g a V (λx H=>Aj g b V (λy H=>BJ op x y Q H) E H) E H:=rfl
theorem Bo:Aj g (.neg a) V Q E H=Aj g a V (λx H=>match x with| .int i=>Q (.int (-i)) H|_=>False) E H:=rfl
theorem AF:Aj g (.not a) V Q E H=Aj g a V (λx H=>BF x H λb=>Q (.bool (!b)) H) E H:=rfl
theorem Am:Aj g (.ao b xs) V Q E H=BN g b xs V Q E H:=rfl
theorem Ar:Aj g (.cmp op a b) V Q E H=Aj g a V (λx H=>Aj g b V (λy H=>AA op x y Q H) E H) E H:=rfl
theorem Bd:Aj g (.cmp2 o₁ o₂ a b d) V Q E H=Aj g a V (λx H=>Aj g b V (λy H=>AA o₁ x y (λr H=>BF r H λt=>if t then Aj g d V (λz H=>AA o₂ y z Q H) E H else Q r H) H) E H) E H:=rfl
theorem Au:Aj g (.sub a i) V Q E H=Aj g a V (λx H=>Aj g i V (λy H=>A8 x y Q H) E H) E H:=rfl
theorem Bf{a:X}{lo hi st}:Aj g (.slice a lo hi st) V Q E H=Aj g a V (λx H=>F6 g lo V (λl H=>F6 g hi V (λu H=>F6 g st V (λt H=>EK x l u t Q H) E H) E H) E H) E H:=rfl
theorem A_:Aj g (.glob n) V Q E H=(match g.c.P.consts.lookup n with|some v=>Q v H|none=>False):=rfl
theorem A6:Aj g (.call f xs) V Q E H=Ay g xs V (λvs H=>CallOK g.c g.n g.md f vs Q E H) E H:=rfl
theorem A1:Aj g (.prim f xs) V Q E H=Ay g xs V (λvs H=>BS g.md f vs Q H) E H:=rfl
theorem Ax:Aj g (.bm a m xs) V Q E H=Aj g a V (λx H=>Fs m x H/\Ay g xs V (λvs H=>FS x m vs Q H) E H) E H:=rfl
theorem Ba:Aj g (.isinst a ty) V Q E H=Aj g a V (λx H=>match DH g.c.P H x ty with|some b=>Q (.bool b) H|none=>False) E H:=rfl
theorem AB:Aj g (.list xs) V Q E H=Ay g xs V (λvs H=>∀a,H a=none->Q (.ref a) (up H a (.list vs))) E H:=rfl
theorem AN:Aj g (.tuple xs) V Q E H=Ay g xs V (λvs H=>∀a,H a=none->Q (.ref a) (up H a (.tuple vs))) E H:=rfl
theorem BP:Aj g (.new cl xs) V Q E H=Ay g xs V (λvs H=>∀a,H a=none->CallOK g.c g.n g.md (cl++".__init__") (.ref a::vs) (λr H=>r = .none/\Q (.ref a) H) E (up H a (.inst cl []))) E H:=rfl
theorem Bg:Aj g (.dict [] []) V Q E H=(∀a,H a=none->Q (.ref a) (up H a (.dict 0 []))):=rfl
theorem An:Ay g [] V QL E H=QL [] H:=rfl
theorem Al:Ay g (x::r) V QL E H=Aj g x V (λv H=>Ay g r V (λvs H=>QL (v::vs) H) E H) E H:=rfl
theorem AT:BN g b [x] V Q E H=Aj g x V Q E H:=rfl
theorem AQ:BN g b (x::y::r) V Q E H=Aj g x V (λv H=>BF v H λt=>if t=b then BN g b (y::r) V Q E H else Q v H) E H:=rfl
theorem Do:F6 g none V QO E H=QO none H:=rfl
theorem Df:F6 g (some x) V QO E H=Aj g x V (λv H=>QO (some v) H) E H:=rfl
theorem CR:EX g none V QC E H=QC true H:=rfl
theorem Dg:EX g (some x) V QC E H=Aj g x V (λv H=>BF v H λb=>QC b H) E H:=rfl
theorem tv:DT g (.var i) x V QN EE H=(i<V.length/\QN (V.set i (some x)) H):=rfl
theorem AC:DT g (.sub a i) x V QN EE H=Aj g a V (λo H=>Aj g i V (λj H=>match o,j with
   | .ref p,.str k=>(match H p with
    |some (.dict _ es)=>es.length<=sizeLine/\∀ep,QN V (up H p (.dict ep (AI es k x)))
    |_=>False)
   |_,_=>False) EE H) EE H:=rfl
theorem AM:DT g (.attr a n) x V QN EE H=Aj g a V (λo H=>match o with
   | .ref p=>(match H p with
    |some (.inst cl es)=>g.c.P.attrs.contains (cl,n)=true/\es.length<=100/\QN V (up H p (.inst cl (Cv es n x)))
    |_=>False)
   |_=>False) EE H:=rfl
theorem Dm:DT g (.tup is) x V QN EE H=(g.md=true/\CI is.length x H λxs=>QN (Fi V is xs) H):=rfl
theorem QU:DT g (.rtup is) x V QN EE H=(g.md=true/\CI is.length x H λxs=>QN (Fi V is.reverse xs.reverse) H):=rfl
theorem AP:A4 g (.expr e) QN QR E V H=Aj g e V (λ_ H=>QN V H) (λcl H=>E cl V H) H:=rfl
theorem Cz:A4 g (.raise cl m) QN QR E V H=(g.md=true/\E cl V H):=rfl
theorem BX:A4 g (.for t it b) QN QR E V H=(g.md=true/\Aj g it V (λv H=>Bq QN (λx nx V H=>B_ t x V H λV=>Af g b nx QR E V H) v V H) (λcl H=>E cl V H) H):=rfl
theorem CT:A4 g (.while cn b) QN QR E V H=(g.md=true/\MD QN (λq V H=>Aj g cn V (λx H=>BF x H λt=>q t H) (λcl H=>E cl V H) H) (λq V H=>Af g b q QR E V H) V H):=rfl
theorem Dq:A4 g (.try b hs) QN QR E V H=(g.md=true/\Af g b QN QR (λcl V H=>Da g hs cl QN QR E V H) V H):=rfl
theorem BO:Aj g (.attr a n) V Q E H=Aj g a V (λx H=>match x with
   | .ref p=>(match H p with
    |some (.inst cl es)=>g.c.P.attrs.contains (cl,n)=true/\(match C5 es n with|some v=>Q v H|none=>False)
    |some (.book B)=>n="day"/\g.c.P.attrs.contains ("Book","day")=true/\Q (.int B.day) H
    |_=>False)
   |_=>False) E H:=rfl
theorem BE:Aj g (.meth a m xs) V Q E H=Aj g a V (λx H=>match x with
   | .ref p=>(match H p with
    |some (.inst cl es)=>g.c.P.meths.contains (cl,m)=true/\C5 es m=none/\Ay g xs V (λvs H=>CallOK g.c g.n g.md (cl++"."++m) (.ref p::vs) Q E H) E H
    |some (.book _)=>g.c.P.meths.contains ("Book",m)=true/\bookAttrs.contains m=false/\Ay g xs V (λvs H=>CallOK g.c g.n g.md ("Book."++m) (.ref p::vs) Q E H) E H
    |_=>False)
   |_=>False) E H:=rfl
theorem BU:Aj g (.dict [k] [v]) V Q E H=Aj g k V (λk H=>Aj g v V (λv H=>match k with| .str k=>∀a ep,H a=none->Q (.ref a) (up H a (.dict ep [(k,v)]))|_=>False) E H) E H:=rfl
theorem Bl:Aj g (.comp e k tup it c) V Q E H=(g.md=true/\Aj g it V (λv H=>Kj Q (λx nx H=>
   if tup then CI k x H λxs=>EX g c (V++xs.map some) (λb H=>if b then Aj g e (V++xs.map some) (λy H=>nx (some y) H) (λ_ _=>False) H else nx none H) (λ_ _=>False) H
   else EX g c (V++[some x]) (λb H=>if b then Aj g e (V++[some x]) (λy H=>nx (some y) H) (λ_ _=>False) H else nx none H) (λ_ _=>False) H) v H) E H):=rfl
theorem A7:A4 g (.ite c a b) QN QR E V H=Aj g c V (λx H=>BF x H λt=>if t then Af g a QN QR E V H else Af g b QN QR E V H) (λcl H=>E cl V H) H:=rfl
theorem Bp:A4 g (.ret e) QN QR E V H=Aj g e V QR (λcl H=>E cl V H) H:=rfl
theorem At:A4 g (.assign t e) QN QR E V H=Aj g e V (λx H=>DT g t x V QN (λcl H=>E cl V H) H) (λcl H=>E cl V H) H:=rfl
theorem Ab(h:∀K:VV->Ac->Prop,(∀V H,Af g r QN QR E V H->K V H)->A4 g s K QR E V H):Af g (s::r) QN QR E V H:=h _ λ_ _ h=>h
theorem Ci:Af g [] QN QR E V H=QN V H:=rfl
theorem BG:Af g (s::r) QN QR E V H=A4 g s (λV H=>Af g r QN QR E V H) QR E V H:=rfl
theorem Dz:A4 g .pass QN QR E V H=QN V H:=rfl
theorem LY:Da g (h::r) cl QN QR E V H=Nf g h cl (Da g r cl QN QR E V H) QN QR E V H:=rfl
theorem MN:Nf g (.mk c nm b) cl N QN QR E V H=(if Gl g.c.P cl c then
   (match nm with
   |none=>Af {g with md:=false} b QN QR (λ_ _ _=>False) V H
   |some i=>∀a,H a=none->i<V.length/\Af {g with md:=false} b (λV H=>QN (V.set i none) H) QR (λ_ _ _=>False) (V.set i (some (.ref a))) (up H a (.exc cl)))
  else N):=rfl
theorem JW:BS md .len [.str s] Q H=(s.length<2 ^ 62/\Q (.int s.length) H):=rfl
theorem JO:BS md .range [.int b] Q H=((-(2 ^ 62)<b/\b<2 ^ 62)/\∀z,H z=none->Q (.ref z) (up H z (.range 0 b))):=rfl
theorem LU{a b}:BS md .range [.int a,.int b] Q H=((-(2 ^ 62)<a/\a<2 ^ 62/\-(2 ^ 62)<b/\b<2 ^ 62)/\∀z,H z=none->Q (.ref z) (up H z (.range a b))):=rfl
theorem Ka:BS md .int [.bool b] Q H=Q (.int (if b then 1 else 0)) H:=rfl
theorem SF:BS md .min [.int a,.int b] Q H=(md=true/\Q (.int (if b<a then b else a)) H):=rfl
theorem SG:BS md .max [.int a,.int b] Q H=(md=true/\Q (.int (if a<b then b else a)) H):=rfl
theorem GT:A8 (.str s) (.int i) Q H=(0<=i/\i<2 ^ 63/\∃ch,s.cps[i.toNat]? =some ch/\Q (.str ⟨#[ch]⟩) H):=rfl
theorem RY:EK (.str s) (some (.int l)) none none Q H=(0<=l/\l<=s.length/\s.length<=sizeLine/\Q (.str ⟨(s.cps.toList.drop l.toNat).toArray⟩) H):=rfl
theorem RZ:EK (.str s) none (some (.int u)) none Q H=(0<=u/\u<=s.length/\s.length<=sizeLine/\Q (.str ⟨(s.cps.toList.take u.toNat).toArray⟩) H):=rfl
theorem Fj:BS md .len [.ref a] Q H=(match H a with
   |some (.list xs)=>xs.length<2 ^ 62/\Q (.int xs.length) H
   |some (.tuple xs)=>xs.length<2 ^ 62/\Q (.int xs.length) H
   |some (.dict _ es)=>es.length<2 ^ 62/\Q (.int es.length) H
   |some (.script ns)=>ns.length<2 ^ 62/\Q (.int ns.length) H
   |_=>False):=rfl
theorem Gc:BS md .list [.ref a] Q H=(match H a with
   |some (.list xs)=>xs.length<=sizeLine/\∀z,H z=none->Q (.ref z) (up H z (.list xs))
   |some (.tuple xs)=>xs.length<=sizeLine/\∀z,H z=none->Q (.ref z) (up H z (.list xs))
   |some (.dict _ es)=>md=true/\es.length<=sizeLine/\∀z,H z=none->Q (.ref z) (up H z (.list (es.map λe=>.str e.1)))
   |some (.vals d)=>(match H d with
    |some (.dict _ es)=>md=true/\es.length<=sizeLine/\∀z,H z=none->Q (.ref z) (up H z (.list (es.map (·.2))))
    |_=>False)
   |_=>False):=rfl
theorem IC:BS md .sum [.ref a] Q H=(md=true/\(match H a with
   |some (.list xs)=>∃ns:List Int,xs=ns.map .int/\Q (.int ns.sum) H
   |_=>False)):=rfl
theorem SM:FS (.ref p) .append [v] Q H=(match H p with
  |some (.list xs)=>xs.length<=sizeLine/\Q .none (up H p (.list (xs++[v])))
  |_=>False):=rfl
theorem N1:FS (.ref p) .values [] Q H=(match H p with
  |some (.dict _ _)=>∀z,H z=none->Q (.ref z) (up H z (.vals p))
  |_=>False):=rfl
theorem QW:BF (.ref a) H P=(match H a with
  |some (.list xs)=>xs.length<2 ^ 62/\P (!xs.isEmpty)
  |some (.tuple xs)=>xs.length<2 ^ 62/\P (!xs.isEmpty)
  |_=>False):=rfl
theorem DL:A8 (.ref a) (.int i) Q H=(match H a with
  |some (.list xs)=>∃j v,Dj xs.length i=some j/\i<2 ^ 63/\-(2 ^ 63)<=i/\xs[j]? =some v/\Q v H
  |some (.tuple xs)=>∃j v,Dj xs.length i=some j/\i<2 ^ 63/\-(2 ^ 63)<=i/\xs[j]? =some v/\Q v H
  |some (.script ns)=>0<=i/\i<2 ^ 63/\∃n,ns[i.toNat]? =some n/\Q (.int n) H
  |_=>False):=rfl
theorem CU:A8 (.ref a) (.str k) Q H=(match H a with
  |some (.dict _ es)=>∃v,Bb es k=some v/\Q v H
  |_=>False):=rfl
theorem Q7{lo hi st}:EK (.ref a) lo hi st Q H=(match H a with
  |some (.list xs)=>∃l u t,EQ lo=some l/\EQ hi=some u/\EQ st=some t/\t≠some 0/\xs.length<=sizeLine/\∀z,H z=none->Q (.ref z) (up H z (.list (DO xs l u t)))
  |_=>False):=rfl
theorem FF:win no x (.ref a) Q H=(match H a with
  |some (.list ys)=>∃d ds,RD H x d/\DX H ys ds/\Ex d/\Dr ds=true/\Q (.bool (nt no (ds.any λy=>PyData.eqv y d))) H
  |some (.dict _ es)=>match x with
   | .str k=>Q (.bool (nt no (Bb es k).isSome)) H
   |_=>False
  |_=>False):=rfl
theorem Mn:win no x (.str s) Q H=(match x with
  | .str k=>∃ch,k=⟨#[ch]⟩/\Q (.bool (nt no (s.cps.toList.contains ch))) H
  |_=>False):=rfl
theorem Nx:PyData.eqv (.str x) (.str y)=(x==y):=rfl
theorem SS:PyData.eqv (.list x) (.list y)=PyData.eqvAll x y:=rfl
theorem SU:PyData.eqvAll (x::r) (y::q)=(PyData.eqv x y&&PyData.eqvAll r q):=rfl
theorem BR{h:Heap}(e:h.get? a=some o):@LT.lt Nat _ a h.objs.size:=Heap.lt_size e
theorem CB{a b:Nat}(h:a<=b):a<=b:=h
theorem Ah:up H a o a=some o:=by simp[up]
theorem Ag(h:b≠a):up H a o b=H b:=by simp[up,h]
theorem Be:AY R a r a=some r:=by simp[AY]
theorem AK(h:b≠a):AY R a r b=R b:=by simp[AY,h]
theorem PD{h:Heap}(e:h.objs.size<=a):h.get? a=none:=by
 cases q:h.get? a with
 |none=>rfl
 |some o=>have:=BR q;have:=CB e;omega
theorem IS(h:c.base.objs.size<=a):Kr c a o:=⟨λ_=>PD h,λ_=>h⟩
theorem VRs.length{as vs}(h:VRs as vs):as.length=vs.length:=by
 induction h with
 |nil=>rfl
 |cons _ _ ih=>simp[ih]
theorem VRs.get{as vs}(h:VRs as vs):∀{i:Nat} {a:AV},as[i]? =some a->∃v,vs[i]? =some v/\VR a v:=by
 induction h with
 |nil=>intro i a e;simp at e
 |cons ha _ ih=>
  intro i a e;cases i with
  |zero=>simp at e;subst e;exact⟨_,by simp,ha⟩
  |succ i=>simp at e;refine e12 (ih e) λv h1 h2=>?_;exact⟨v,by simpa using h1,h2⟩
theorem VRs.append{as vs bs us}(h:VRs as vs)(k:VRs bs us):VRs (as++bs) (vs++us):=by
 induction h with
 |nil=>exact k
 |cons ha _ ih=>exact .cons ha ih
theorem VRs.one{a v}(h:VR a v):VRs [a] [v]:=.cons h .nil
theorem VRs.set{as vs}(h:VRs as vs){a v}(hv:VR a v)(n:Nat):VRs (as.set n a) (vs.set n v):=by
 induction h generalizing n with
 |nil=>exact .nil
 |cons ha hr ih=>cases n with
  |zero=>exact .cons hv hr
  |succ n=>exact .cons ha (ih n)
theorem ORep.there(r:ORep c h D a o):∃ob,h.get? a=some ob:=by
 cases o with
 |book=>exact r.elim
 |list=>refine e22 r λ_ _ e _=>?_;exact⟨_,e⟩
 |tuple=>refine e22 r λ_ _ e _=>?_;exact⟨_,e⟩
 |dict=>refine e12 r λ_ z01 _=>?_;obtain⟨_,_,e,_⟩:=z01;exact⟨_,e⟩
 |inst=>exact⟨_,r.1⟩
 |range=>obtain⟨_,_,_,_,e⟩:=r;exact⟨_,e⟩
 |vals=>exact⟨_,r⟩
 |exc=>refine e12 r λ_ e _=>?_;exact⟨_,e⟩
 |script=>refine e22 r λ_ _ e _=>?_;exact⟨_,e⟩
theorem ORep.agree(r:ORep c h D a o)(e:∀ob,h.get? a=some ob->h'.get? a=some ob)
  (e2:∀cl es,o = .inst cl es->D' a=D a/\∀ob,h.get? (D a)=some ob->h'.get? (D a)=some ob):ORep c h' D' a o:=by
 cases o with
 |book=>exact r.elim
 |list=>refine e22 r λvs n q x=>?_;exact⟨vs,n,e _ q,x⟩
 |tuple=>refine e22 r λvs n q x=>?_;exact⟨vs,n,e _ q,x⟩
 |dict=>refine e12 r λkvs z11 y=>?_;obtain⟨o,es,q,x⟩:=z11;exact⟨kvs,⟨o,es,e _ q,x⟩,y⟩
 |inst cl es=>
  obtain⟨q,ents,n,q2,x⟩:=r;exact Ap (e2 cl es rfl) λd1 d2=>⟨by refine rl d1 ?_;exact e _ q,ents,n,by refine rl d1 ?_;exact d2 _ q2,x⟩
 |range=>obtain⟨z,t,u,v,q⟩:=r;exact⟨z,t,u,v,e _ q⟩
 |vals=>exact e _ r
 |exc=>refine e12 r λo q x=>?_;exact⟨o,e _ q,x⟩
 |script=>refine e22 r λvs n q x=>?_;exact⟨vs,n,e _ q,x⟩
theorem ResAt.agree(x:ResAt h b r)(e:∀ob,h.get? b=some ob->h'.get? b=some ob):ResAt h' b r:=by
 cases r with
 |ns m=>refine e32 x λo es ep q y=>?_;exact⟨o,es,ep,e _ q,y⟩
 |cell v=>refine e12 x λo q y=>?_;exact⟨o,e _ q,y⟩
 |obj o=>exact e _ x
theorem ResAt.there(x:ResAt h b r):∃ob,h.get? b=some ob:=by
 cases r with
 |ns m=>refine e32 x λo es ep q y=>?_;exact⟨o,q⟩
 |cell v=>refine e12 x λo q y=>?_;exact⟨o,q⟩
 |obj o=>exact⟨_,x⟩
theorem St1.weaken(S:St1 c R' H h)(k:∀b r,R b=some r->R' b=some r):St1 c R H h:=by
 obtain⟨s1,s2,s3,D,s4⟩:=S;have nn:∀a,R' a=none->R a=none:=λa e=>by
  cases q:R a with
  |none=>rfl
  |some r=>rw[k a r q]at e;trivial
 exact⟨s1,s2,λb r e=>s3 b r (k b r e),D,⟨s4.rep,λa o e=>⟨(s4.above a o e).1,nn _ (s4.above a o e).2⟩,
  λa cl es e=>⟨(s4.dict a cl es e).1,nn _ (s4.dict a cl es e).2.1,(s4.dict a cl es e).2.2⟩,s4.inj⟩⟩
theorem St1.keeps(S:St1 c R H h)(k:∀b o,h.get? b=some o->h'.get? b=some o)(hs:h.objs.size<=h'.objs.size):St1 c R H h':=by
 obtain⟨s1,s2,s3,D,s4⟩:=S;exact⟨λb o e=>k b o (s1 b o e),le_trans s2 hs,λb r e=>⟨(s3 b r e).1,(s3 b r e).2.agree λ_=>k _ _⟩,D,
  ⟨λa o e=>(s4.rep a o e).agree (λ_=>k _ _) λ_ _ _=>⟨rfl,λ_=>k _ _⟩,s4.above,s4.dict,s4.inj⟩⟩
theorem St1.push(S:St1 c R H h)(o:Obj):St1 c R H (h.push o):=S.keeps (λ_ _ e=>Heap.get?_push_of_some o e) (by refine rl (Heap.size_push ..) ?_;exact Dw)
theorem St1.freeH(S:St1 c R H h){x}(hx:h.objs.size<=x):H x=none:=by
 cases q:H x with
 |none=>rfl
 |some o=>
  refine e11 S.rep λD s4=>e11 ((s4.rep _ _ q).there) λob e=>?_;have:=BR e;have:=CB hx;omega
theorem St1.freeR(S:St1 c R H h){x}(hx:h.objs.size<=x):R x=none:=by
 cases q:R x with
 |none=>rfl
 |some o=>
  refine e11 ((S.res _ _ q).2.there) λob e=>?_;have:=BR e;have:=CB hx;omega
theorem St1.newObj(S:St1 c R H h){x:Addr}(hx:h.objs.size<=x)(k:∀b ob,h.get? b=some ob->h'.get? b=some ob)(hs:h.objs.size<=h'.objs.size)
  (hni:∀cl es,o≠.inst cl es)(ho:∀D,ORep c h' D x o):H x=none/\St1 c R (up H x o) h':=by
 refine⟨S.freeH hx,?_⟩;have hRx:=S.freeR hx;have hb:=S.size;have S':=S.keeps k hs;obtain⟨s1,s2,s3,D,s4⟩:=S';have hD:∀a cl es,H a=some (.inst cl es)->D a≠x:=λa cl es e q=>by
  refine e11 S.rep λD0 s40=>?_;obtain⟨q1,ents,n,q2,_⟩:=s4.rep a _ e;obtain⟨p1,ents',n',p2,_⟩:=s40.rep a _ e;have:=k _ _ p1;rw[q1]at this;have hd:D a=D0 a:=by injection this with this;injection this with _ z;exact Ak z
  have hlt:=BR p2;have hx':=CB hx;rw[<-hd,q]at hlt;exact Nat.not_le_of_lt hlt hx'
 refine⟨s1,s2,s3,D,⟨λa ao e=>?_,λa ao e=>?_,λa cl es e=>?_,λa b cl es cl' es' e e'=>?_⟩⟩
 ·by_cases q:a=x
  ·subst q;rw[Ah]at e;obtain rfl:=Ak e;exact ho D
  ·rw[Ag q]at e;exact s4.rep a ao e
 ·by_cases q:a=x
  ·subst q;exact⟨IS (by have:=CB hx;exact le_trans hb this),hRx⟩
  ·rw[Ag q]at e;exact s4.above a ao e
 ·by_cases q:a=x
  ·subst q;rw[Ah]at e;obtain rfl:=Ak e;exact absurd rfl (hni cl es)
  ·rw[Ag q]at e;exact Br (s4.dict a cl es e) λy1 y2 y3=>⟨y1,y2,by exact rl (Ag (hD a cl es e)) y3⟩
 ·by_cases q:a=x
  ·subst q;rw[Ah]at e;obtain rfl:=Ak e;exact absurd rfl (hni cl es)
  ·by_cases q':b=x
   ·subst q';rw[Ah]at e';obtain rfl:=Ak e';exact absurd rfl (hni cl' es')
   ·rw[Ag q]at e;rw[Ag q']at e';exact s4.inj a b cl es cl' es' e e'
theorem St1.newRes(S:St1 c R H h){x:Addr}(hx:h.objs.size<=x)(k:∀b ob,h.get? b=some ob->h'.get? b=some ob)(hs:h.objs.size<=h'.objs.size)
  (hr:ResAt h' x r):R x=none/\H x=none/\St1 c (AY R x r) H h':=by
 refine⟨S.freeR hx,S.freeH hx,?_⟩;have hHx:=S.freeH hx;have hb:=S.size;refine e11 S.rep λD0 s40=>?_;have S':=S.keeps k hs;obtain⟨s1,s2,s3,D,s4⟩:=S';have hD:∀a cl es,H a=some (.inst cl es)->D a≠x:=λa cl es e q=>by
  obtain⟨q1,ents,n,q2,_⟩:=s4.rep a _ e;obtain⟨p1,ents',n',p2,_⟩:=s40.rep a _ e;have:=k _ _ p1;rw[q1]at this;have hd:D a=D0 a:=by injection this with this;injection this with _ z;exact Ak z
  have hlt:=BR p2;have hx':=CB hx;rw[<-hd,q]at hlt;exact Nat.not_le_of_lt hlt hx'
 refine⟨s1,s2,λb rr e=>?_,D,⟨s4.rep,λa ao e=>?_,λa cl es e=>?_,s4.inj⟩⟩
 ·by_cases q:b=x
  ·subst q;rw[Be]at e;obtain rfl:=Ak e;exact⟨le_trans hb hx,hr⟩
  ·rw[AK q]at e;exact s3 b rr e
 ·exact Ap (s4.above a ao e) λy1 y2=>⟨y1,by refine rl (AK (λq=>by rw[q,hHx]at e;trivial)) ?_;exact y2⟩
 ·exact Br (s4.dict a cl es e) λy1 y2 y3=>⟨y1,by refine rl (AK (hD a cl es e)) ?_;exact y2,y3⟩
theorem St1.setRes(S:St1 c R H h){x:Addr}{r r':Jq}(hx:R x=some r)(hs:Heap.SameBut x h h')(hr:ResAt h' x r'):St1 c (AY R x r') H h':=by
 obtain⟨s1,s2,s3,D,s4⟩:=S;have bx:c.base.get? x=none:=by
  cases q:c.base.get? x with
  |none=>rfl
  |some o=>have:=BR q;have:=CB (s3 x r hx).1;lia
 refine⟨λb o e=>?_,by refine rl hs.1 ?_;exact s2,λb rr e=>?_,D,⟨λa ao e=>?_,λa ao e=>?_,λa cl es e=>?_,s4.inj⟩⟩
 ·refine rl (hs.2 b (λq=>by rw[q,bx]at e;trivial)) ?_;exact s1 b o e
 ·by_cases q:b=x
  ·subst q;rw[Be]at e;obtain rfl:=Ak e;exact⟨(s3 b r hx).1,hr⟩
  ·rw[AK q]at e;exact⟨(s3 b rr e).1,(s3 b rr e).2.agree λob z=>by refine rl (hs.2 b q) ?_;exact z⟩
 ·refine(s4.rep a ao e).agree (λob z=>?_) λcl es eo=>⟨rfl,λob z=>?_⟩
  ·refine rl (hs.2 a (λq=>by have:=(s4.above a ao e).2;rw[q,hx]at this;trivial)) ?_;exact z
  ·subst eo;refine rl (hs.2 _ (λq=>by have:=(s4.dict a cl es e).2.1;rw[q,hx]at this;trivial)) ?_;exact z
 ·exact Ap (s4.above a ao e) λy1 y2=>⟨y1,by refine rl (AK (λq=>by rw[q,hx]at y2;trivial)) ?_;exact y2⟩
 ·exact Br (s4.dict a cl es e) λy1 y2 y3=>⟨y1,by refine rl (AK (λq=>by rw[q,hx]at y2;trivial)) ?_;exact y2,y3⟩
theorem St1.setObj(S:St1 c R H h){x:Addr}{o o':AObj}(hx:H x=some o)(hni':∀cl es,o'≠.inst cl es)(hs:Heap.SameBut x h h')
  (ho:∀D,ORep c h' D x o')(hne:o.isX=false:=by rfl):St1 c R (up H x o') h':=by
 obtain⟨s1,s2,s3,D,s4⟩:=S;have bx:c.base.get? x=none:=PD ((s4.above x _ hx).1.2 hne);refine⟨λb o e=>?_,by refine rl hs.1 ?_;exact s2,λb rr e=>?_,D,⟨λa ao e=>?_,λa ao e=>?_,λa cl es e=>?_,λa b cl es cl' es' e e'=>?_⟩⟩
 ·refine rl (hs.2 b (λq=>by rw[q,bx]at e;trivial)) ?_;exact s1 b o e
 ·exact⟨(s3 b rr e).1,(s3 b rr e).2.agree λob z=>by refine rl (hs.2 b (λq=>by have:=(s4.above x _ hx).2;rw[q,this]at e;trivial)) ?_;exact z⟩
 ·by_cases q:a=x
  ·subst q;rw[Ah]at e;obtain rfl:=Ak e;exact ho D
  ·rw[Ag q]at e;refine(s4.rep a ao e).agree (λob z=>by refine rl (hs.2 a q) ?_;exact z) λcl es eo=>⟨rfl,λob z=>?_⟩
   subst eo;refine rl (hs.2 _ (λq=>by have:=(s4.dict a cl es e).2.2;rw[q,hx]at this;trivial)) ?_;exact z
 ·by_cases q:a=x
  ·subst q;exact⟨IS ((s4.above a _ hx).1.2 hne),(s4.above a _ hx).2⟩
  ·rw[Ag q]at e;exact s4.above a ao e
 ·by_cases q:a=x
  ·subst q;rw[Ah]at e;obtain rfl:=Ak e;exact absurd rfl (hni' cl es)
  ·rw[Ag q]at e;exact Br (s4.dict a cl es e) λy1 y2 y3=>⟨y1,y2,by refine rl (Ag (λq=>by rw[q,hx]at y3;trivial)) ?_;exact y3⟩
 ·by_cases q:a=x
  ·subst q;rw[Ah]at e;obtain rfl:=Ak e;exact absurd rfl (hni' cl es)
  ·by_cases q':b=x
   ·subst q';rw[Ah]at e';obtain rfl:=Ak e';exact absurd rfl (hni' cl' es')
   ·rw[Ag q]at e;rw[Ag q']at e';exact s4.inj a b cl es cl' es' e e'
theorem St1.setAttr(S:St1 c R H h){x:Addr}{cl:String}{es:List (String×AV)}(hx:H x=some (.inst cl es)) :
  ∃d ents n,h.get? x=some (instObj (c.ca cl) d)/\h.get? d=some (dictOf ents n)/\DK es ents/\(es.map (·.1)).Nodup/\
   ∀h' ents' n' es',Heap.SameBut d h h'->h'.get? d=some (dictOf ents' n')->DK es' ents'->(es'.map (·.1)).Nodup->St1 c R (up H x (.inst cl es')) h':=by
 obtain⟨s1,s2,s3,D,s4⟩:=S;obtain⟨e1,ents,n,e2,e3,e4⟩:=s4.rep x _ hx;refine⟨D x,ents,n,e1,e2,e3,e4,λh' ents' n' es' hs hd ha hnd=>Br (s4.dict x cl es hx) λd1 d2 d3=>?_⟩;have bx:c.base.get? (D x)=none:=by
  cases q:c.base.get? (D x)with
  |none=>rfl
  |some o=>have:=BR q;have:=CB d1;lia
 refine⟨λb o e=>?_,by refine rl hs.1 ?_;exact s2,λb rr e=>?_,D,⟨λa ao e=>?_,λa ao e=>?_,λa cl' es'' e=>?_,λa b cla esa clb esb e e'=>?_⟩⟩
 ·refine rl (hs.2 b (λq=>by rw[q,bx]at e;trivial)) ?_;exact s1 b o e
 ·exact⟨(s3 b rr e).1,(s3 b rr e).2.agree λob z=>by refine rl (hs.2 b (λq=>by rw[q,d2]at e;trivial)) ?_;exact z⟩
 ·by_cases q:a=x
  ·subst q;rw[Ah]at e;obtain rfl:=Ak e;exact⟨by refine rl (hs.2 a (λq=>by rw[<-q,hx]at d3;trivial)) ?_;exact e1,ents',n',hd,ha,hnd⟩
  ·rw[Ag q]at e;refine(s4.rep a ao e).agree (λob z=>by refine rl (hs.2 a (λq=>by rw[q,d3]at e;trivial)) ?_;exact z) λcl' es'' eo=>⟨rfl,λob z=>?_⟩
   subst eo;refine rl (hs.2 _ (λq'=>q (s4.inj a x _ _ _ _ e hx q'))) ?_;exact z
 ·by_cases q:a=x
  ·subst q;exact⟨IS ((s4.above a _ hx).1.2 rfl),(s4.above a _ hx).2⟩
  ·rw[Ag q]at e;exact s4.above a ao e
 ·by_cases q:a=x
  ·subst q;exact⟨d1,d2,by refine rl (Ag (λq=>by rw[q,hx]at d3;trivial)) ?_;exact d3⟩
  ·rw[Ag q]at e;exact Br (s4.dict a cl' es'' e) λy1 y2 y3=>⟨y1,y2,by refine rl (Ag (λq=>by rw[q,hx]at y3;trivial)) ?_;exact y3⟩
 ·have t:∀z cz ez,up H x (.inst cl es') z=some (.inst cz ez)->∃c0 e0,H z=some (.inst c0 e0):=λz cz ez ez'=>by
   by_cases q:z=x
   ·subst q;exact⟨_,_,hx⟩
   ·rw[Ag q]at ez';exact⟨_,_,ez'⟩
  exact e21 (t a _ _ e) λ_ _ t1=>e21 (t b _ _ e') λ_ _ t2=>s4.inj a b _ _ _ _ t1 t2
theorem St1.newInst(S:St1 c R H h):H (h.objs.size+1)=none/\St1 c R (up H (h.objs.size+1) (.inst cl [])) ((h.push emptyDict).push (instObj (c.ca cl) h.objs.size)):=by
 refine⟨S.freeH (Dw),?_⟩;have hfd:=S.freeH (x:=h.objs.size) (by lia);have hfi:=S.freeH (x:=h.objs.size+1) (Dw);have hrd:=S.freeR (x:=h.objs.size) (by lia);have hri:=S.freeR (x:=h.objs.size+1) (Dw);have k:∀b o,h.get? b=some o->((h.push emptyDict).push (instObj (c.ca cl) h.objs.size)).get? b=some o:=λb o e=>Heap.get?_push_of_some _ (Heap.get?_push_of_some _ e);obtain⟨s1,s2,s3,D,s4⟩:=S;have hDlt:∀a cl es,H a=some (.inst cl es)->@LT.lt Nat _ (D a) h.objs.size:=λa cl es e=>by
  obtain⟨_,_,_,q,_⟩:=s4.rep a _ e;exact BR q
 refine⟨λb o e=>k b o (s1 b o e),by refine rl (Heap.size_push ..) (rl (Heap.size_push ..) ?_);lia,λb r e=>⟨(s3 b r e).1,(s3 b r e).2.agree λ_=>k _ _⟩,
  λa=>if a=h.objs.size+1 then h.objs.size else D a,⟨λa ao e=>?_,λa ao e=>?_,λa cl' es e=>?_,λa b cla esa clb esb e e' hq=>?_⟩⟩
 ·by_cases q:a=h.objs.size+1
  ·subst q;rw[Ah]at e;obtain rfl:=Ak e;refine⟨?_,[],0,?_,trivial,by simp⟩
   ·simp only[if_true];have:=Heap.get?_push_size (h.push emptyDict) (o:=instObj (c.ca cl) h.objs.size) rfl
    rwa[Heap.size_push]at this
   ·simp only[if_true];exact Heap.get?_push_of_some _ (Heap.get?_push_size h rfl)
  ·rw[Ag q]at e;exact(s4.rep a ao e).agree (λ_=>k _ _) λcl' es eo=>⟨by simp[q],λ_=>k _ _⟩
 ·by_cases q:a=h.objs.size+1
  ·subst q;exact⟨IS (Nat.le_add_right_of_le s2),hri⟩
  ·rw[Ag q]at e;exact s4.above a ao e
 ·by_cases q:a=h.objs.size+1
  ·subst q;simp only[if_true];exact⟨s2,hrd,by exact rl (Ag (ne_of_lt (lt_succ_self _))) hfd⟩
  ·rw[Ag q]at e;simp only[if_neg q];refine Br (s4.dict a cl' es e) λy1 y2 y3=>?_;have:=hDlt a cl' es e;exact⟨y1,y2,by exact rl (Ag (ne_of_lt (Nat.lt_succ_of_lt this))) y3⟩
 ·by_cases q:a=h.objs.size+1
  ·by_cases q':b=h.objs.size+1
   ·exact rl q (rl q' rfl)
   ·rw[Ag q']at e';simp only[q,q',if_true,if_false]at hq;exact absurd hq (ne_of_gt (hDlt b _ _ e'))
  ·rw[Ag q]at e;by_cases q':b=h.objs.size+1
   ·simp only[q,q',if_true,if_false]at hq;exact absurd hq (ne_of_lt (hDlt a _ _ e))
   ·rw[Ag q']at e';simp only[q,q',if_false]at hq;exact s4.inj a b _ _ _ _ e e' hq
theorem Sm.mk'(s:Shared)(h:Heap)(tk:Nat):Sm s {s with heap:=h,toks:=tk}:=⟨h,tk,rfl⟩
theorem Sm.trans(x:Sm s s')(y:Sm s' s''):Sm s s'':=by
 refine e21 x λh t z22=>?_;obtain rfl:=z22;refine e21 y λh' t' z32=>?_;obtain rfl:=z32;exact⟨h',t',rfl⟩
def KB(P:Role->Prop)(o o':Addr->Option Role)(H H':Ac):Prop:=∀a r x,P r->o a=some r->H a=some x->x.isB=false->o' a=some r/\H' a=some x
section
variable(k:KB P o o' H H')(hd:P .data)
include k hd
theorem pairsAV.congr:∀{ts:List Addr} {l:List (Str×Int)},pairsAV o H ts l->pairsAV o' H' ts l
 |[],[],_=>trivial
 |t::_,_::_,⟨h1,h2,h3⟩=>⟨(k t _ _ hd h1 h2 rfl).1,(k t _ _ hd h1 h2 rfl).2,h3.congr⟩
 |[],_::_,h=>h.elim
 |_::_,[],h=>h.elim
theorem PairsAt.congr(h:PairsAt o H p l):PairsAt o' H' p l:=by
 obtain⟨h1,ts,h2,h3⟩:=h;exact⟨(k p _ _ hd h1 h2 rfl).1,ts,(k p _ _ hd h1 h2 rfl).2,h3.congr k hd⟩
theorem IsPact.congr(hp:P (.pact i)/\P (.inside i))(h:IsPact o H i a q):IsPact o' H' i a q:=by
 obtain⟨h1,pa,ga,ne,ins,ep,h2,h3,h4,h5,h6,h7,h8⟩:=h;exact⟨(k a _ _ hp.1 h1 h2 rfl).1,pa,ga,ne,ins,ep,(k a _ _ hp.1 h1 h2 rfl).2,h3.congr k hd,h4.congr k hd,(k ne _ _ hd h5 h6 rfl).1,(k ne _ _ hd h5 h6 rfl).2,(k ins _ _ hp.2 h7 h8 rfl).1,(k ins _ _ hp.2 h7 h8 rfl).2⟩
theorem pactsAt.congr:∀{i:Nat} {as:List Addr} {qs:List Pc},(∀j,i<=j->P (.pact j)/\P (.inside j))->pactsAt o H i as qs->pactsAt o' H' i as qs
 |_,[],[],_,_=>trivial
 |i,_::_,_::_,hp,⟨h1,h2⟩=>⟨h1.congr k hd (hp i (le_refl _)),h2.congr λj hj=>hp j (Nat.le_of_succ_le hj)⟩
 |_,[],_::_,_,h=>h.elim
 |_,_::_,[],_,h=>h.elim
end
theorem IsBook.congr(k:KB (λ_=>True) o o' H H')(h:IsBook o H b f s p as B):IsBook o' H' b f s p as B:=by
 obtain⟨h1,h2,h3,h4,h5,⟨e1,h6⟩,⟨e2,h7⟩,⟨e3,h8⟩,h9⟩:=h;exact⟨(k b _ _ trivial h1 h5 rfl).1,(k f _ _ trivial h2 h6 rfl).1,(k s _ _ trivial h3 h7 rfl).1,(k p _ _ trivial h4 h8 rfl).1,(k b _ _ trivial h1 h5 rfl).2,⟨e1,(k f _ _ trivial h2 h6 rfl).2⟩,⟨e2,(k s _ _ trivial h3 h7 rfl).2⟩,⟨e3,(k p _ _ trivial h4 h8 rfl).2⟩,h9.congr k trivial λ_ _=>⟨trivial,trivial⟩⟩
theorem ownB_some:Cu o b a=some r↔o a=some (b,r):=by
 unfold Cu;cases e:o a with
 |none=>exact⟨λz=>(nomatch z),λz=>(nomatch z)⟩
 |some x=>
  obtain⟨c,r'⟩:=x;by_cases q:c=b<;>simp[q]
theorem Real.get(r:Real H H₁)(e:H a=some x)(hb:x.isB=false):H₁ a=some x:=by
 obtain⟨_,o,h⟩:=r;rcases h a x e with⟨_,h,_⟩|⟨B,_,_,_,_,rfl,_⟩
 ·exact h
 ·trivial
theorem Real.none(r:Real H H₁)(e:H₁ a=Option.none):H a=Option.none:=by
 obtain⟨_,o,h⟩:=r;cases q:H a with
 |none=>rfl
 |some x=>
  rcases h a x q with⟨_,h,_⟩|⟨B,f,s,p,as,rfl,h⟩
  ·rw[e]at h;trivial
  ·have:=h.hb;rw[e]at this;trivial
theorem Real.put(r:Real H H₁)(hy:y.isB=false)(hx:H₁ x=Option.none\/∃z,H x=some z/\z.isB=false):Real (up H x y) (up H₁ x y):=by
 obtain⟨hr,o,h⟩:=r;have hox:(∃z,H x=some z/\z.isB=false)->o x=Option.none:=by
  rintro⟨z,e,hz⟩;rcases h x z e with⟨_,_,q⟩|⟨B,_,_,_,_,rfl,_⟩
  ·exact q
  ·trivial
 refine⟨λa z e=>?_,λa=>if a=x then Option.none else o a,λa z e=>?_⟩
 ·by_cases q:a=x
  ·subst q;rw[Ah]at e;obtain rfl:=Ak e;exact hy
  ·rw[Ag q]at e;exact hr a z e
 by_cases q:a=x
 ·subst q;rw[Ah]at e;obtain rfl:=Ak e;exact .inl ⟨hy,Ah,if_pos rfl⟩
 ·rw[Ag q]at e;rcases h a z e with⟨h1,h2,h3⟩|⟨B,f,s,p,as,rfl,h1⟩
  ·exact .inl ⟨h1,by refine rl (Ag q) ?_;exact h2,(if_neg q).trans h3⟩
  ·refine .inr ⟨B,f,s,p,as,rfl,h1.congr λc r' z _ hr hc _=>?_⟩;have hr:=ownB_some.mp hr;have hcx:c≠x:=by
    rintro rfl;rcases hx with hx|hx
    ·rw[hx]at hc;trivial
    ·rw[hox hx]at hr;trivial
   exact⟨ownB_some.mpr ((if_neg hcx).trans hr),by exact rl (Ag hcx) hc⟩
theorem Real.raw(hr:∀a x,H a=some x->x.isB=false):Real H H:=⟨hr,λ_=>Option.none,λa x e=>.inl ⟨hr a x e,e,rfl⟩⟩
theorem Real.unpack(r:Real H H₁)(hb:H b=some (.book B)):∃H₂ o f s p as,Real H₂ H₁/\IsBook o H₂ b f s p as B/\∀a x,H a=some x->a≠b->H₂ a=some x/\o a=Option.none:=by
 obtain⟨hr,o,h⟩:=r;rcases h b _ hb with⟨h1,_⟩|⟨B',f,s,p,as,e,h1⟩
 ·trivial
 cases e;have key:∀a x,H a=some x->a≠b->Cu o b a=Option.none:=λa x e q=>by
  cases z:Cu o b a with
  |none=>rfl
  |some r=>
   have z:=ownB_some.mp z;rcases h a x e with⟨_,_,k⟩|⟨B',f',s',p',as',rfl,k⟩
   ·rw[k]at z;trivial
   ·have:=ownB_some.mp k.ob;rw[this]at z;cases z;exact absurd rfl q
 have hbs:=h1.ob;refine⟨λa=>match Cu o b a with|some _=>H₁ a|Option.none=>H a,Cu o b,f,s,p,as,⟨hr,λa=>match Cu o b a with|some _=>Option.none|Option.none=>o a,λa x e=>?_⟩,h1.congr λa r x _ hr hx _=>⟨hr,by simp only[hr];exact hx⟩,λa x e q=>?_⟩
 ·cases z:Cu o b a with
  |some r=>simp only[z]at e;exact .inl ⟨hr a x e,e,by simp only[z]⟩
  |none=>
   simp only[z]at e;rcases h a x e with⟨k1,k2,k3⟩|⟨B',f',s',p',as',rfl,k⟩
   ·exact .inl ⟨k1,k2,by simp only[z];exact k3⟩
   ·refine .inr ⟨B',f',s',p',as',rfl,k.congr λc r x _ hc hx _=>⟨?_,hx⟩⟩;have hc:=ownB_some.mp hc;have hab:a≠b:=by rintro rfl;rw[hbs]at z;trivial
    have hn:Cu o b c=Option.none:=by
     cases w:Cu o b c with
     |none=>rfl
     |some r'=>have w:=ownB_some.mp w;rw[hc]at w;cases w;exact absurd rfl hab
    exact ownB_some.mpr (by simp only[hn];exact hc)
 ·have:=key a x e q;exact⟨by simp only[this];exact e,this⟩
theorem Real.pack(r:Real H₂ H₁)(hb:IsBook o H₂ b f s p as B)
  (k:∀a x,H a=some x->(a=b/\x = .book B)\/(a≠b/\o a=Option.none/\H₂ a=some x)):Real H H₁:=by
 obtain⟨hr,oA,h⟩:=r;refine⟨hr,λa=>match oA a with|some z=>some z|Option.none=>(o a).map λr=>(b,r),λa x e=>?_⟩;rcases k a x e with⟨rfl,rfl⟩|⟨h1,h2,h3⟩
 ·refine .inr ⟨B,f,s,p,as,rfl,hb.congr λc r x _ hc hx hn=>?_⟩;rcases h c x hx with⟨_,k1,k2⟩|⟨B',_,_,_,_,rfl,_⟩
  ·exact⟨ownB_some.mpr (by simp only[k2,hc];rfl),k1⟩
  ·trivial
 ·rcases h a x h3 with⟨k1,k2,k3⟩|⟨B',f',s',p',as',rfl,k1⟩
  ·exact .inl ⟨k1,k2,by simp only[k3,h2];rfl⟩
  ·refine .inr ⟨B',f',s',p',as',rfl,k1.congr λc r x _ hc hx _=>⟨?_,hx⟩⟩;have hc:=ownB_some.mp hc;exact ownB_some.mpr (by simp only[hc])
theorem St.stays(S:St c R H h):c.base.StaysIn h:=let ⟨_,s,_⟩:=S;s.stays
theorem St.size(S:St c R H h):c.base.objs.size<=h.objs.size:=let ⟨_,s,_⟩:=S;s.size
theorem St.res(S:St c R H h):∀b r,R b=some r->c.base.objs.size<=b/\ResAt h b r:=let ⟨_,s,_⟩:=S;s.res
theorem St.orep(S:St c R H h)(e:H a=some x)(hb:x.isB=false:=by rfl):(∃D,ORep c h D a x)/\Kr c a x/\R a=none:=by
 exact e12 S λH₁ s r=>e11 s.rep λD k=>⟨⟨D,k.rep a x (r.get e hb)⟩,k.above a x (r.get e hb)⟩
theorem St.weaken(S:St c R' H h)(k:∀b r,R b=some r->R' b=some r):St c R H h:=let ⟨H₁,s,r⟩:=S;⟨H₁,s.weaken k,r⟩
theorem St.push(S:St c R H h)(o:Obj):St c R H (h.push o):=let ⟨H₁,s,r⟩:=S;⟨H₁,s.push o,r⟩
theorem St.freeR(S:St c R H h)(hx:h.objs.size<=x):R x=none:=let ⟨_,s,_⟩:=S;s.freeR hx
theorem St.newObj(S:St c R H h)(hx:h.objs.size<=x)(k:∀b ob,h.get? b=some ob->h'.get? b=some ob)(hs:h.objs.size<=h'.objs.size)
  (hni:∀cl es,o≠.inst cl es)(ho:∀D,ORep c h' D x o)(hb:o.isB=false:=by rfl):H x=none/\St c R (up H x o) h':=by
 exact e12 S λH₁ s r=>Ap (s.newObj hx k hs hni ho) λe s'=>⟨r.none e,_,s',r.put hb (.inl e)⟩
theorem St.newRes(S:St c R H h)(hx:h.objs.size<=x)(k:∀b ob,h.get? b=some ob->h'.get? b=some ob)(hs:h.objs.size<=h'.objs.size)
  (hr:ResAt h' x r):R x=none/\H x=none/\St c (AY R x r) H h':=by
 exact e12 S λH₁ s rl=>Br (s.newRes hx k hs hr) λe e' s'=>⟨e,rl.none e',_,s',rl⟩
theorem St.setRes(S:St c R H h)(hx:R x=some r)(hs:Heap.SameBut x h h')(hr:ResAt h' x r'):St c (AY R x r') H h':=let ⟨H₁,s,rl⟩:=S;⟨H₁,s.setRes hx hs hr,rl⟩
theorem St.setObj(S:St c R H h)(hx:H x=some o)(hni':∀cl es,o'≠.inst cl es)(hs:Heap.SameBut x h h')
  (ho:∀D,ORep c h' D x o')(hne:o.isX=false:=by rfl)(hb:o.isB=false:=by rfl)(hb':o'.isB=false:=by rfl):St c R (up H x o') h':=by
 exact e12 S λH₁ s r=>⟨_,s.setObj (r.get hx hb) hni' hs ho hne,r.put hb' (.inr ⟨o,hx,hb⟩)⟩
theorem St.setAttr(S:St c R H h)(hx:H x=some (.inst cl es)) :
  ∃d ents n,h.get? x=some (instObj (c.ca cl) d)/\h.get? d=some (dictOf ents n)/\DK es ents/\(es.map (·.1)).Nodup/\
   ∀h' ents' n' es',Heap.SameBut d h h'->h'.get? d=some (dictOf ents' n')->DK es' ents'->(es'.map (·.1)).Nodup->St c R (up H x (.inst cl es')) h':=by
 exact e12 S λH₁ s r=>e35 (s.setAttr (r.get hx rfl)) λd ents n a1 a2 a3 a4 a5=>⟨d,ents,n,a1,a2,a3,a4,λh' e' n' es' q1 q2 q3 q4=>⟨_,a5 h' e' n' es' q1 q2 q3 q4,r.put rfl (.inr ⟨_,hx,rfl⟩)⟩⟩
theorem St.newInst(S:St c R H h):H (h.objs.size+1)=none/\St c R (up H (h.objs.size+1) (.inst cl [])) ((h.push emptyDict).push (instObj (c.ca cl) h.objs.size)):=by
 exact e12 S λH₁ s r=>Ap (s.newInst (cl:=cl)) λe s'=>⟨r.none e,_,s',r.put rfl (.inl e)⟩
theorem St.bookAttr(S:St c R H h)(hx:H x=some (.book B)):∃f s p,∃d ents n,h.get? x=some (instObj (c.ca "Book") d)/\h.get? d=some (dictOf ents n)/\DK [("day",.int B.day),("free",.ref f),("aside",.ref s),("pacts",.ref p)] ents:=by
 refine e12 S λH₁ s r=>?_;obtain⟨_,o,k⟩:=r;rcases k x _ hx with⟨k,_⟩|⟨B',f,s',p,as,e,k⟩
 ·trivial
 cases e;exact e34 (s.setAttr k.hb) λd ents n a1 a2 a3 _=>⟨f,s',p,d,ents,n,a1,a2,a3⟩
structure Cx.Ok(c:Cx)(mg mb:Str->Option Value):Prop where
 kin:c.K.In c.base
 g:c.base.Ns mainGlobals mg
 b:c.base.Ns builtinsNs mb
 nolimit:c.base.NoLimit
 builtins:∀x:Str,x≠"__name__"->mb x=bootBuiltins x
 seer:c.base.NoSeer
 tree:c.prog.given.tree=none
 top:∃p loose,TopRead p loose mg mb c.base
structure Ev(g:Gx)(A:Around)(R:RR)(e:Env)(l:List Env):Prop where
 aok:Nh 4 g.n g.md A (e::l)
 stk:Dx R (e::l)
inductive Nq(c:Cx)(R:RR)(s₀:Shared)(Q:AV->Ac->Prop)(v:Value)(s':Shared):Prop
 |mk (av:AV) (H':Ac) (hv:VR av v) (S:St c R H' s'.heap) (m:Sm s₀ s') (q:Q av H'):Nq c R s₀ Q v s'
def TQ(g:Gx)(R:RR)(s₀:Shared)(Q:AV->Ac->Prop)(v:Value)(s':Shared):Prop:=Nq g.c R s₀ Q v s'
inductive Nm(c:Cx)(R:RR)(s₀:Shared)(Q:Bool->Ac->Prop)(b:Bool)(s':Shared):Prop
 |mk (H':Ac) (S:St c R H' s'.heap) (m:Sm s₀ s') (q:Q b H'):Nm c R s₀ Q b s'
def TB(g:Gx)(R:RR)(s₀:Shared)(Q:Bool->Ac->Prop)(b:Bool)(s':Shared):Prop:=Nm g.c R s₀ Q b s'
inductive Nn(c:Cx)(R:RR)(s₀:Shared)(E:String->Ac->Prop)(e:Value)(s':Shared):Prop
 |mk (a:Addr) (cl:String) (H':Ac) (h:e = .ref a) (X:ExcSt c R H' a cl .none s'.heap) (m:Sm s₀ s') (q:E cl H'):Nn c R s₀ E e s'
def TE(g:Gx)(R:RR)(s₀:Shared)(E:String->Ac->Prop)(e:Value)(s':Shared):Prop:=Nn g.c R s₀ E e s'
theorem Sm.step(x:Sm s₀ s)(h:Heap)(tk:Nat):Sm s₀ {s with heap:=h,toks:=tk}:=x.trans ⟨h,tk,rfl⟩
theorem Sm.toks(x:Sm s₀ s)(tk:Nat):Sm s₀ {s with toks:=tk}:=x.trans ⟨s.heap,tk,rfl⟩
theorem Sm.heap(x:Sm s₀ s)(h:Heap):Sm s₀ {s with heap:=h}:=x.trans ⟨h,s.toks,rfl⟩
section
variable{g:Gx}{A:Around}{R:RR}{s₀ s:Shared}{H:Ac}{E:Value->Shared->Prop}{Q:AV->Ac->Prop}
theorem TQ.pure(hv:VR a v)(S:St g.c R H s.heap)(m:Sm s₀ s)(q:Q a H):TQ g R s₀ Q v s:=⟨a,H,hv,S,m,q⟩
theorem TQ.toks(hv:VR a v)(S:St g.c R H s.heap)(m:Sm s₀ s)(q:Q a H):TQ g R s₀ Q v {s with toks:=tk}:=⟨a,H,hv,S,m.toks tk,q⟩
theorem Cj(S:St g.c R H s.heap)(e:H a=some (.list xs)):∃vs n,s.heap.get? a=some (listOf (vs:List Value).toArray n)/\VRs xs vs/\s.heap.IsList a vs.toArray:=by
 obtain⟨⟨D,vs,n,h1,h2⟩,_⟩:=S.orep e;exact⟨vs,n,h1,h2,_,h1,rfl,n,rfl⟩
theorem Ed(S:St g.c R H s.heap)(e:H a=some (.tuple xs)):∃vs n,s.heap.get? a=some {cls:=.type "tuple",data:=.seq (vs:List Value).toArray n}/\VRs xs vs/\IsTup s.heap a vs.toArray:=by
 obtain⟨⟨D,vs,n,h1,h2⟩,_⟩:=S.orep e;exact⟨vs,n,h1,h2,_,h1,rfl,n,rfl⟩
theorem DG(S:St g.c R H s.heap)(e:H a=some (.dict ep es)):∃kvs,s.heap.DictAt (strKind g.c.prog g.c.w) a kvs ep/\DRs es kvs:=by
 obtain⟨⟨D,r⟩,_⟩:=S.orep e;exact r
theorem W0(S:St g.c R H s.heap)(e:H a=some o)(hne:o.isX=false:=by rfl)(hb:o.isB=false:=by rfl):g.c.base.objs.size<=a:=(S.orep e hb).2.1.2 hne
theorem DRs.length{es kvs}(h:DRs es kvs):kvs.length=es.length:=by
 induction h with
 |nil=>rfl
 |cons _ _ _ ih=>simp[ih]
set_option tactic.hygienic true in
theorem DRs.look{es kvs}(h:DRs es kvs)(k:Str):OVR (Bb es k) (valueAt kvs k):=by
 induction h with
 |nil=>exact .none
 |cons hk hv _ ih=>
  rename_i k' a v as vs _;dsimp only[Bb,valueAt,find?_cons]at ih⊢;by_cases q:k'=k
  ·simp[q];exact .some hv
  ·simp[q];exact ih
theorem DRs.vals{es kvs}(h:DRs es kvs):VRs (es.map (·.2)) (kvs.map (·.2)):=by
 induction h with
 |nil=>exact .nil
 |cons _ hv _ ih=>exact .cons hv ih
theorem OVR.isSome{a v}(h:OVR a v):v.isSome=a.isSome:=by cases h<;>rfl
theorem FZ(S:St g.c R H s.heap)(m:Sm s₀ s)(hv:VRs xs vs)(hx:s.heap.objs.size<=x)
  (k:∀b ob,s.heap.get? b=some ob->h'.get? b=some ob)(hs:s.heap.objs.size<=h'.objs.size)(ho:h'.get? x=some (listOf vs.toArray n))
  (q:∀z,H z=none->Q (.ref z) (up H z (.list xs))):TQ g R s₀ Q (.ref x) {s with heap:=h',toks:=tk}:=by
 obtain⟨e,S'⟩:=S.newObj (o:=.list xs) hx k hs (by intro _ _ z;trivial) (λD=>⟨vs,n,ho,hv⟩);exact⟨.ref x,_,.ref x,S',m.step _ _,q x e⟩
theorem JH(hv:VR a v)(S:St g.c R H s.heap)(m:Sm s₀ s)(q:BF a H (λb=>Qb b H)) :
  wpAny (model g.c.prog g.c.w) A (truthy v) (TB g R s₀ Qb) E s:=by
 cases hv with
 |none=>exact truthy_none ⟨H,S,m,q⟩
 |bool b=>exact wpAny_truthy_bool ⟨H,S,m,q⟩
 |int i t=>exact truthy_int ⟨H,S,m,q⟩
 |str x t hx=>
  refine P.truthy_str (by have:=q.1;exact HK this) ⟨H,S,m.toks _,?_⟩;have:((x.length:Int) != 0)=(x.length != 0):=by
   cases x.length with
   |zero=>rfl
   |succ n=>simp;exact HI (by decide)
  exact rl this q.2
 |ref p=>
  obtain⟨o,e⟩:∃o,H p=o:=⟨_,rfl⟩
  rw[QW,e]at q;cases o with
  |none=>exact q.elim
  |some o=>
  cases o with
  |list xs=>
   refine e23 (Cj S e) λvs n h1 h2 h3=>?_;have hl:=h2.length;refine wpAny_truthy_list h3 (by simp only[size_toArray];have:=q.1;exact Hp this hl) ⟨H,S,m.toks _,?_⟩;have:(vs.toArray.isEmpty)=xs.isEmpty:=by cases h2<;>rfl
   exact rl this q.2
  |tuple xs=>
   refine e23 (Ed S e) λvs n h1 h2 h3=>?_;have hl:=h2.length;refine truthy_tuple h3 (by simp only[size_toArray];have:=q.1;exact Hp this hl) ⟨H,S,m.toks _,?_⟩;have:(vs.toArray.isEmpty)=xs.isEmpty:=by cases h2<;>rfl
   exact rl this q.2
  |_=>exact q.elim
theorem Te(hx:PyData.strOk x=true)(hy:PyData.strOk y=true):PyData.strOk (x++y)=true:=by
 show(x.cps++y.cps).all _=true;exact rl Array.all_append (Bool.and_eq_true_iff.mpr ⟨hx,hy⟩)
theorem LB(hx:PyData.strOk x=true)(hc:ch∈x.cps):ch<0x110000:=by
 have:=(Array.all_eq_true_iff_forall_mem.mp hx) ch hc;simpa using this
theorem LR{l:List Nat}(h:∀ch∈l,ch<0x110000):PyData.strOk ⟨l.toArray⟩=true:=by
 show l.toArray.all _=true;rw[Array.all_eq_true_iff_forall_mem];intro ch hc;simpa using h ch (by simpa using hc)
theorem Fc{as:List AV}{vs:List Value}{k:AV->Prop}{m:List Value->Prop}(hv:VRs as vs)(q:Ct as k)(f:∀a v,VR a v->k a->m [v]):m vs:=by
 cases hv with
 |nil=>exact q.elim
 |cons h1 hr=>cases hr with
  |nil=>exact f _ _ h1 q
  |cons=>exact q.elim
theorem JU{o:AV}{u:Value}{k:Addr->List AV->Prop}{m:Value->Prop}(ho:VR o u)(q:Hg o H k)(f:∀p xs,H p=some (.list xs)->k p xs->m (.ref p)):m u:=by
 cases ho with
 |ref p=>
  obtain⟨o,e⟩:∃o,H p=o:=⟨_,rfl⟩
  dsimp only[Hg]at q;rw[e]at q;cases o with
  |none=>exact q.elim
  |some o=>cases o with
   |list xs=>exact f p xs e q
   |_=>exact q.elim
 |_=>exact q.elim
theorem XK{o:AV}{u:Value}{k:Addr->List (Str×AV)->Prop}{m:Value->Prop}(ho:VR o u)(q:MU o H k)(f:∀p ep es,H p=some (.dict ep es)->k p es->m (.ref p)):m u:=by
 cases ho with
 |ref p=>
  obtain⟨o,e⟩:∃o,H p=o:=⟨_,rfl⟩
  dsimp only[MU]at q;rw[e]at q;cases o with
  |none=>exact q.elim
  |some o=>cases o with
   |dict ep es=>exact f p ep es e q
   |_=>exact q.elim
 |_=>exact q.elim
theorem EG{a b:AV}{u v:Value}{P:Int->Int->Prop}{m:Value->Value->Prop}(hu:VR a u)(hv:VR b v)(q:F5 a b P)(f:∀x y t t',P x y->m (.int x t) (.int y t')):m u v:=by
 cases hu with
 |int x t=>cases hv with
  |int y t'=>exact f x y t t' q
  |_=>exact q.elim
 |_=>exact q.elim
set_option tactic.hygienic true in
theorem Yh(hx:PyData.strOk x=true)(hy:PyData.strOk y=true)(S:St g.c R H s.heap)(m:Sm s₀ s)(q1:x.length+y.length<=sizeLine)(q2:Q (.str (x++y)) H) :
  wpAny (model g.c.prog g.c.w) A (binaryOp .Add (.str x t) (.str y u)) (TQ g R s₀ Q) E s:=by
 refine P.add_str ?_;have e1:∀z:Str,z.length=0->z=Str.empty:=λz hz=>by
  obtain⟨⟨l⟩⟩:=z;cases l with
  |nil=>rfl
  |cons=>trivial
 split
 ·rename_i hz;have hz':=e1 _ (by simpa using hz);rw[hz']at q2;refine TQ.pure (.str _ u hy) S m ?_;have e2:∀y:Str,Str.empty++y=y:=λy=>by show Str.append _ _=_;simp[Str.append,Str.empty]
  rw[e2]at q2;exact q2
 ·split
  ·rename_i _ hz;have hz':=e1 _ (by simpa using hz);rw[hz']at q2;refine TQ.pure (.str _ t hx) S m ?_;have e2:∀x:Str,x++Str.empty=x:=λx=>by show Str.append _ _=_;simp[Str.append,Str.empty]
   rw[e2]at q2;exact q2
  ·exact⟨rl (Str.length_append ..) q1,TQ.toks (.str _ _ (Te hx hy)) S m q2⟩
theorem Yi(S:St g.c R H s.heap)(m:Sm s₀ s)(q:BJ .Add (.ref x) (.ref y) Q H) :
  wpAny (model g.c.prog g.c.w) A (binaryOp .Add (.ref x) (.ref y)) (TQ g R s₀ Q) E s:=by
 obtain⟨o,e1⟩:∃o,H x=o:=⟨_,rfl⟩
 obtain⟨o',e2⟩:∃o,H y=o:=⟨_,rfl⟩
 replace q:(match H x,H y with
   |some (.list xs),some (.list ys)=>xs.length+ys.length<=sizeLine/\∀z,H z=none->Q (.ref z) (up H z (.list (xs++ys)))
   |_,_=>False):=q
 rw[e1,e2]at q;cases o with
 |none=>exact q.elim
 |some o=>
 cases o with
 |list xs=>cases o' with
  |none=>exact q.elim
  |some o'=>cases o' with
   |list ys=>
    refine e23 (Cj S e1) λvs n h1 h2 h3=>e23 (Cj S e2) λws n' k1 k2 k3=>P.add_list (n:=n) (n2:=n') h1 k1 ?_ (by have:=h2.length;have:=k2.length;have:=q.1;simp only[size_toArray];lia);have hvw:=h2.append k2;refine FZ (n:=0) (vs:=vs++ws) S m hvw (le_refl _) (λ_ _ e=>Heap.get?_push_of_some _ e) (rl (Heap.size_push ..) (le_succ _)) ?_ q.2;refine rl (Heap.get?_push_size _ rfl) ?_;simp
   |_=>exact q.elim
 |_=>exact q.elim
theorem Yc(S:St g.c R H s.heap)(m:Sm s₀ s)(q:BJ .Mult (.ref x) (.int k) Q H) :
  wpAny (model g.c.prog g.c.w) A (binaryOp .Mult (.ref x) (.int k t)) (TQ g R s₀ Q) E s:=by
 obtain⟨o,e1⟩:∃o,H x=o:=⟨_,rfl⟩
 replace q:(match H x with
   |some (.list xs)=>(k=0\/k=1)/\xs.length<=sizeLine/\∀z,H z=none->Q (.ref z) (up H z (.list (if k=1 then xs else[])))
   |_=>False):=q
 rw[e1]at q;cases o with
 |none=>exact q.elim
 |some o=>
 cases o with
 |list xs=>
  refine e23 (Cj S e1) λvs n h1 h2 h3=>Br q λhk hl q=>?_;have hn:vs.length*k.toNat<=sizeLine:=by
   have:=h2.length;rcases hk with rfl|rfl
   ·exact zero_le _
   ·show vs.length*1<=_;lia
  have hs:sizeLine<=2 ^ 40:=by decide
  refine wpAny_binaryOp_repeat_ref (T:="list") (U:="int") (by decide) ⟨_,h1,rfl⟩ (λs'=>typeIs_int s' k t) noFill_list_mul F.fills_int_mul F.slot_int_rmul repeat_list F.slot_int_index.lookup
   (call_meets F.slot_int_rmul (typeIs_int s k t) F.entry_int_rmul (F.args_int_rmul_2 _ _) (lm_int_rmul_list_any k t x vs.toArray n none #[])
    ⟨h1,rfl,⟨_,h1,rfl⟩,call_meets F.slot_list_mul ⟨_,h1,rfl⟩ F.entry_list_mul (F.args_list_mul_2 _ _)
     (lm_list_mul_any x vs.toArray n none #[] k t (by rcases hk with rfl|rfl<;>decide) (by rw[size_toArray];lia) (by unfold Builtin.List.listTooLong;rw[size_toArray];exact λz=>absurd (of_decide_eq_true z) (not_lt.mpr hn)))
     ⟨h1,?_⟩⟩)
  have hv:VRs (if k=1 then xs else[]) (List.replicate k.toNat vs).flatten:=by
   rcases hk with rfl|rfl
   ·exact .nil
   ·show VRs xs (vs++[]);rw[append_nil];exact h2
  rw[listMul_foldl_if];exact FZ (n:=0) (vs:=(List.replicate k.toNat vs).flatten) S m hv (le_refl _) (λ_ _ e=>Heap.get?_push_of_some _ e) (by rw[Heap.size_push];exact le_succ _) (Heap.get?_push_size _ rfl) q
 |_=>exact q.elim
theorem SC{op:Operator}{a b:AV}{u v:Value}{e₀:Env}{l₀:List Env}{mg mb:Str->Option Value}(C:g.c.Ok mg mb)(V:Ev g A R e₀ l₀)(hu:VR a u)(hv:VR b v)(S:St g.c R H s.heap)(m:Sm s₀ s)(q:BJ op a b Q H) :
  wpAny (model g.c.prog g.c.w) A (binaryOp op u v) (TQ g R s₀ Q) E s:=by
 cases op with
 |Add=>cases hu with
  |int x t=>cases hv with
   |int y t'=>exact add_int (TQ.toks (.int _ _) S m q)
   |_=>exact q.elim
  |str x t hx=>cases hv with
   |str y t' hy=>exact Yh hx hy S m q.1 q.2
   |_=>exact q.elim
  |ref p=>cases hv with
   |ref p'=>exact Yi S m q
   |_=>exact q.elim
  |_=>exact q.elim
 |Sub=>exact EG (m:=λu v=>wpAny _ A (binaryOp .Sub u v) (TQ g R s₀ Q) E s) hu hv q λ_ _ _ _ q=>sub_int (TQ.toks (.int _ _) S m q)
 |Mult=>cases hu with
  |int x t=>cases hv with
   |int y t'=>exact mul_int (TQ.toks (.int _ _) S m (show IntMulOk x y/\_ from q).2) (show IntMulOk x y/\_ from q).1
   |_=>exact q.elim
  |ref p=>cases hv with
   |int y t'=>exact Yc S m q
   |_=>exact q.elim
  |_=>cases hv<;>exact q.elim
 |FloorDiv=>
  refine EG (m:=λu v=>wpAny _ A (binaryOp .FloorDiv u v) (TQ g R s₀ Q) E s) hu hv q λ_ _ _ _ q=>?_;have F0:=V.stk e₀ (mem_cons_self ..);refine floordiv_int q.1 (TQ.toks (.int _ _) S m q.2) (.inr (PySem.PylongRoom.of (C.nolimit.keeps S.stays) ?_ (PySem.SeerAt.of (env:=e₀) (l:=l₀) (C.seer.keeps S.stays) C.tree V.aok.frames F0.gen F0.co F0.blt F0.glob)));have:=V.aok.depth;have e:Builtin.pylongFrames<=100:=by decide
  lia
 |Mod=>exact EG (m:=λu v=>wpAny _ A (binaryOp .Mod u v) (TQ g R s₀ Q) E s) hu hv q λ_ _ _ _ q=>mod_int' q.1 (TQ.toks (.int _ _) S m q.2)
 |Pow=>
  refine EG (m:=λu v=>wpAny _ A (binaryOp .Pow u v) (TQ g R s₀ Q) E s) hu hv q λx y _ _ q=>?_;obtain⟨⟨q1,q2,q3⟩,q4⟩:=q;refine AutoIntOps.pow_4 (Int.le_trans (by decide) q2) (by simp;lia) (by simp;lia) (by simp;lia) (by refine rl q3 ?_;simp) (show(Made.int (x ^ y.toNat)).post _ s from TQ.toks (.int _ _) S m q4)
 |_=>exact q.elim
abbrev HU(s:Shared)(v:Value)(d:PyData):Prop:=(∃as,Reads s.heap v d as)/\(Fr d=true->PyData.canLay0 d=true)
abbrev DY(s:Shared)(vs:List Value)(ds:List PyData):Prop:=(∃bs,ReadsAll s.heap vs ds bs)/\(Dr ds=true->PyData.canLayAll0 ds=true)
theorem W6(S:St g.c R H s.heap)(e:H a=some (.list xs))(ih:∀{vs},VRs xs vs->DY s vs ds):HU s (.ref a) (.list ds):=by
 refine e23 (Cj S e) λvs n h1 h2 h3=>?_;obtain⟨⟨as,ih⟩,cl⟩:=ih h2;exact⟨⟨_,.list h1 rfl rfl ih⟩,cl⟩
theorem Vf(S:St g.c R H s.heap)(e:H a=some (.tuple xs))(ih:∀{vs},VRs xs vs->DY s vs ds):HU s (.ref a) (.tuple ds):=by
 refine e23 (Ed S e) λvs n h1 h2 h3=>?_;obtain⟨⟨as,ih⟩,cl⟩:=ih h2;exact⟨⟨_,.tuple h1 rfl rfl ih⟩,cl⟩
theorem W7(h:∀{v},VR a v->HU s v d)(ih:∀{vs},VRs as vs->DY s vs ds)(hv:VRs (a::as) vs):DY s vs (d::ds):=by
 cases hv with
 |cons v vs=>
  obtain⟨⟨a1,h1⟩,c1⟩:=h v;obtain⟨⟨a2,h2⟩,c2⟩:=ih vs;refine⟨⟨_,.cons h1 h2⟩,λf=>?_⟩;have f:=Bool.and_eq_true_iff.mp f;exact Bool.and_eq_true_iff.mpr ⟨c1 f.1,c2 f.2⟩
theorem J7(S:St g.c R H s.heap)(r:RD H a d):VR a v->HU s v d:=
 @RD.rec H (λa d _=>∀{v},VR a v->HU s v d) (λas ds _=>∀{vs},VRs as vs->DY s vs ds)
  (λhv=>by cases hv;exact⟨⟨[],.none⟩,λ_=>rfl⟩)
  (λb _ hv=>by cases hv;exact⟨⟨[],.bool b⟩,λ_=>rfl⟩)
  (λi _ hv=>by cases hv with|int _ t=>exact⟨⟨[],.int i t⟩,λ_=>rfl⟩)
  (λx _ hv=>by cases hv with|str _ t h=>exact⟨⟨[],.str x t⟩,λ_=>h⟩)
  (λe _ ih _ hv=>by cases hv;exact W6 S e ih)
  (λe _ ih _ hv=>by cases hv;exact Vf S e ih)
  (λhv=>by cases hv;exact⟨⟨[],.nil⟩,λ_=>rfl⟩)
  (λ_ _ h ih _ hv=>W7 h ih hv) a d r v
theorem Id(h:Ex d)(c:Fr d=true->PyData.canLay0 d=true):shaped d=true:=by
 unfold shaped;refine rl (c h.1) ?_;simpa using h.2
theorem I8(C:g.c.Ok mg mb)(S:St g.c R H s.heap)(e:H p=some o)(hne:o.isX=false:=by rfl)(hb:o.isB=false:=by rfl):(p==sysModules)=false:=by
 have h1:=CB (W0 S e hne hb);refine e12 C.nolimit λmc hc _=>?_;have h2:=hc.lt;have h3:@LT.lt Nat _ sysModules cStatics:=by decide
 have h4:@LT.lt Nat _ cStatics g.c.base.objs.size:=h2;have:@LT.lt Nat _ sysModules p:=Hx h3 h4 h1
 exact beq_eq_false_iff_ne.mpr (ne_of_gt this)
noncomputable def Gv(ne:Bool):CmpOp:=if ne then .NotEq else .Eq
theorem Rf(un:A.units+64<cLine)(hu:VR a u)(hv:VR b v)(S:St g.c R H s.heap)(m:Sm s₀ s)(ra:RD H a da)(rb:RD H b db)(sa:Ex da)(sb:Ex db)(qq:Q (.bool (nt ne (PyData.eqv da db))) H) :
  wpAny (model g.c.prog g.c.w) A (compareOp (Gv ne) u v) (TQ g R s₀ Q) E s:=by
 obtain⟨⟨as,ra'⟩,ca⟩:=J7 S ra hu;obtain⟨⟨bs,rb'⟩,cb⟩:=J7 S rb hv;cases ne with
 |true=>exact ne_dataH ra' rb' (Id sa ca) (Id sb cb) un (TQ.pure (.bool _) S m qq)
 |false=>exact eq_dataH ra' rb' (Id sa ca) (Id sb cb) un (TQ.pure (.bool _) S m qq)
def Nc(ne:Bool)(a b:AV)(Q:AV->Ac->Prop)(H:Ac):Prop:=∃da db,RD H a da/\RD H b db/\Ex da/\Ex db/\Q (.bool (nt ne (PyData.eqv da db))) H
theorem MH(C:g.c.Ok mg mb)(un:A.units+64<cLine)(un':A.in1.units+64<cLine)(hu:VR a u)(hv:VR b v)(S:St g.c R H s.heap)(m:Sm s₀ s)(q:Nc ne a b Q H) :
  wpAny (model g.c.prog g.c.w) A (compareOp (Gv ne) u v) (TQ g R s₀ Q) E s:=by
 exact e25 q λda db ra rb sa sb qq=>Rf un hu hv S m ra rb sa sb qq
theorem Jk(C:g.c.Ok mg mb)(V:Ev g A R e₀ l₀)(hu:VR a u)(hv:VR b v)(S:St g.c R H s.heap)(m:Sm s₀ s)(q:FT ne a b Q H) :
  wpAny (model g.c.prog g.c.w) A (compareOp (Gv ne) u v) (TQ g R s₀ Q) E s:=by
 have un:A.units+64<cLine:=by have:=V.aok.units;lia
 have un':A.in1.units+64<cLine:=by have:=V.aok.units;dsimp only[Around.in1];exact Lb this (by decide)
 cases a with
 |int x=>cases b with
  |int y=>
   cases hu;cases hv;cases ne with
   |false=>exact eq_int (TQ.pure (.bool _) S m q)
   |true=>exact ne_int (TQ.pure (.bool _) S m q)
  |_=>exact MH C un un' hu hv S m q
 |str x=>cases b with
  |str y=>exact Rf (da:=.str x) (db:=.str y) un hu hv S m (.str x) (.str y) ⟨rfl,zero_le _⟩ ⟨rfl,zero_le _⟩ q
  |_=>exact MH C un un' hu hv S m q
 |_=>exact MH C un un' hu hv S m q
theorem Qe(ch:Nat)(x:Str):(!(Builtin.Str.occurrences x ⟨#[ch]⟩ 0 x.length 1).isEmpty)=x.cps.toList.contains ch:=by
 refine rl (StrLaws.found_one ..) ?_;simp
theorem Jl(C:g.c.Ok mg mb)(V:Ev g A R e₀ l₀)(hu:VR a u)(hv:VR b v)(S:St g.c R H s.heap)(m:Sm s₀ s)(q:win no a b Q H) :
  wpAny (model g.c.prog g.c.w) A (compareOp (if no then .NotIn else .In) u v) (TQ g R s₀ Q) E s:=by
 have un:A.units+1+64<cLine:=by have:=V.aok.units;exact Lb this (by decide)
 cases hv with
 |ref p=>
  obtain⟨o,e⟩:∃o,H p=o:=⟨_,rfl⟩
  rw[FF,e]at q;cases o with
  |none=>exact q.elim
  |some o=>
  cases o with
  |list ys=>
   refine e25 q λd ds r1 r2 q1 q2 qq=>?_;obtain⟨⟨as,r1'⟩,c1⟩:=J7 S r1 hu;obtain⟨⟨bs,r2'⟩,c2⟩:=J7 S (.list e r2) (.ref p);have dd:d.depth<=64:=q1.2;replace q1:=Id q1 c1;replace q2:PyData.canLayAll0 ds=true:=c2 q2;cases no with
   |true=>exact notIn_list_reads r2' r1' q2 (canLay_of_shaped q1) (Nl un dd) (TQ.pure (.bool _) S m (by exact qq))
   |false=>exact in_list_reads r2' r1' q2 (canLay_of_shaped q1) (Nl un dd) (TQ.pure (.bool _) S m (by exact qq))
  |dict ep es=>cases hu with
   |str k t hk=>
    refine e12 (DG S e) λkvs hd hr=>?_;have hds:(p==sysModules)=false:=I8 C S e;have ho:=(hr.look k).isSome;cases no with
    |true=>
     exact wpAny_notIn_of (strKind_is _ _ k t) hds hd.dictOf.mapOf (TQ.toks (.bool _) S m (rl ho q))
    |false=>
     exact wpAny_in_of (strKind_is _ _ k t) hds hd.dictOf.mapOf (TQ.toks (.bool _) S m (rl ho q))
   |_=>exact q.elim
  |_=>exact q.elim
 |str y t hy=>cases hu with
  |str x t' hx=>
   obtain⟨ch,rfl,qq⟩:=q;cases no with
   |true=>
    exact notIn_str (TQ.pure (.bool _) S m (rl (Qe ..) qq))
   |false=>
    exact in_str (TQ.pure (.bool _) S m (rl (Qe ..) qq))
  |_=>exact q.elim
 |_=>exact q.elim
end
section
variable{g:Gx}{A:Around}{R:RR}{s₀ s:Shared}{H:Ac}{E:Value->Shared->Prop}{Q:AV->Ac->Prop}
set_option tactic.hygienic true in
theorem Oj{a:AV}{u:Value}(hu:VR a u)(c:Bool):isSame u (.bool c)=pure (a==.bool c):=by
 cases hu<;>first|rfl|(rename_i b;cases c<;>cases b<;>rfl)
theorem NR{a:AV}{u:Value}(hu:VR a u):isSame u .none=pure (a==.none):=by
 cases hu<;>rfl
theorem Ha{op:CmpOp}{a b:AV}{u v:Value}{e₀:Env}{l₀:List Env}{mg mb:Str->Option Value}(C:g.c.Ok mg mb)(V:Ev g A R e₀ l₀)(hu:VR a u)(hv:VR b v)(S:St g.c R H s.heap)(m:Sm s₀ s)
  (q:AA op a b Q H):wpAny (model g.c.prog g.c.w) A (compareOp op u v) (TQ g R s₀ Q) E s:=by
 cases op with
 |Eq=>exact Jk (ne:=false) C V hu hv S m q
 |NotEq=>exact Jk (ne:=true) C V hu hv S m q
 |In=>exact Jl (no:=false) C V hu hv S m q
 |NotIn=>exact Jl (no:=true) C V hu hv S m q
 |Is=>
  show wpAny _ _ (do return Value.bool (<-isSame u v):Sem Value) _ _ _;cases hv with
  |none=>refine rl (NR hu) ?_;exact wpAny_bind (wpAny_pure (wpAny_pure (TQ.pure (.bool _) S m q)))
  |bool b=>refine rl (Oj hu ..) ?_;exact wpAny_bind (wpAny_pure (wpAny_pure (TQ.pure (.bool _) S m q)))
  |_=>exact q.elim
 |IsNot=>
  show wpAny _ _ (do return Value.bool (!(<-isSame u v)):Sem Value) _ _ _;cases hv with
  |none=>refine rl (NR hu) ?_;exact wpAny_bind (wpAny_pure (wpAny_pure (TQ.pure (.bool _) S m q)))
  |bool b=>refine rl (Oj hu ..) ?_;exact wpAny_bind (wpAny_pure (wpAny_pure (TQ.pure (.bool _) S m q)))
  |_=>exact q.elim
 |Lt=>exact EG (m:=λu v=>wpAny _ A (compareOp .Lt u v) (TQ g R s₀ Q) E s) hu hv q λ_ _ _ _ q=>lt_int (TQ.pure (.bool _) S m q)
 |LtE=>exact EG (m:=λu v=>wpAny _ A (compareOp .LtE u v) (TQ g R s₀ Q) E s) hu hv q λ_ _ _ _ q=>le_int (TQ.pure (.bool _) S m q)
 |Gt=>exact EG (m:=λu v=>wpAny _ A (compareOp .Gt u v) (TQ g R s₀ Q) E s) hu hv q λ_ _ _ _ q=>gt_int (TQ.pure (.bool _) S m q)
 |GtE=>exact EG (m:=λu v=>wpAny _ A (compareOp .GtE u v) (TQ g R s₀ Q) E s) hu hv q λ_ _ _ _ q=>ge_int (TQ.pure (.bool _) S m q)
theorem OG{n:Nat}{i:Int}{j:Nat}(h:Dj n i=some j):seqIndex? i n=some j:=by
 unfold Dj at h;unfold seqIndex?;split at h
 ·split at h
  ·obtain rfl:=Ak h;have:¬ i<0:=by omega
   simp only[this,if_false];exact rl (if_pos (by simp;omega)) rfl
  ·trivial
 ·split at h
  ·obtain rfl:=Ak h;have:i<0:=by omega
   simp only[this,if_true];exact rl (if_pos (by simp;omega)) rfl
  ·trivial
theorem Vg{n:Nat}{i:Int}{j:Nat}(h:Dj n i=some j):j<n/\(0<=i->j=i.toNat)/\(i<0->j=(i+n).toNat/\-(n:Int)<=i):=by
 unfold Dj at h;split at h
 ·split at h
  ·obtain rfl:=Ak h;omega
  ·trivial
 ·split at h
  ·obtain rfl:=Ak h;omega
  ·trivial
theorem Sc{value slice:Expr}{a i:AV}{u v:Value}{mg mb:Str->Option Value}(_C:g.c.Ok mg mb)(hu:VR a u)(hv:VR i v)(S:St g.c R H s.heap)(m:Sm s₀ s)(q:A8 a i Q H)
  (hs:∀o j,subscripted slice false o j=operate [o,j] (getItem o j)):wpAny (model g.c.prog g.c.w) A (subscriptTail value slice u v) (TQ g R s₀ Q) E s:=by
 cases hu with
 |ref p=>
  obtain⟨o,e⟩:∃o,H p=o:=⟨_,rfl⟩
  cases hv with
  |int i t=>
   rw[DL,e]at q;cases o with
   |none=>exact q.elim
   |some o=>
   cases o with
   |list xs=>
    refine e25 q λj x h1 h2 h3 h4 qq=>e23 (Cj S e) λvs n k1 k2 k3=>e12 (k2.get h4) λy y1 y2=>Br (Vg h1) λp1 p2 p3=>?_;rw[k2.length]at p3;refine tail_any k3.typeIs slot_list_getitem.lookup ?_ (hs _ _);by_cases hz:0<=i
    ·exact wpAny_getItem_list k3 hz h2 (by refine rl (Eq.symm (p2 hz)) ?_;simpa using y1) (TQ.pure y2 S m qq)
    ·have hz:=Int.not_le.mp hz;exact Ap (p3 hz) λp4 p5=>wpAny_getItem_list_neg k3 hz (by simpa using p5) h3 (by simp only[size_toArray];refine rl p4.symm ?_;simpa using y1) (TQ.pure y2 S m qq)
   |tuple xs=>
    exact e25 q λj x h1 h2 h3 h4 qq=>e23 (Ed S e) λvs n k1 k2 k3=>e12 (k2.get h4) λy y1 y2=>tail_any k3.typeIs slot_tuple_getitem.lookup (getItem_tuple k3 h3 h2 (by simp only[size_toArray];refine rl k2.length.symm ?_;exact OG h1) (by simpa using y1) (TQ.pure y2 S m qq)) (hs _ _)
   |script ns=>
    obtain⟨h1,h2,nn,h3,qq⟩:=q;refine Ap (S.orep e) λz00 _=>?_;obtain⟨D,vs,n,k1,k2⟩:=z00;obtain⟨y,y1,y2⟩:=k2.get (i:=i.toNat) (a:=.int nn) (by refine rl (getElem?_map) (rl h3 ?_);rfl);have k3:s.heap.IsList _ vs.toArray:=⟨_,k1,rfl,_,rfl⟩
    exact tail_any k3.typeIs slot_list_getitem.lookup (wpAny_getItem_list k3 h1 h2 (by simpa using y1) (TQ.pure y2 S m qq)) (hs _ _)
   |_=>exact q.elim
  |str k t hk=>
   rw[CU,e]at q;cases o with
   |none=>exact q.elim
   |some o=>
   cases o with
   |dict ep es=>
    refine e12 q λx hx qq=>e12 (DG S e) λkvs hd hr=>?_;have ho:=hr.look k;rw[hx]at ho;generalize hval:valueAt kvs k=y at ho;cases ho with
    |some hv=>
     exact tail_any hd.dictOf.typeIs slot_dict_getitem.lookup (wpAny_getItem_of (strKind_is _ _ k t) hd.dictOf.mapOf hval (TQ.toks hv S m qq)) (hs _ _)
   |_=>exact q.elim
  |_=>exact q.elim
 |str x t hx=>cases hv with
  |int i u=>
   obtain⟨h1,h2,ch,h3,qq⟩:=q;refine tail_any (typeIs_str s _ t) slot_str_getitem.lookup ?_ (hs _ _);have hlt:i.toNat<x.cps.size:=(Array.getElem?_eq_some_iff.mp h3).1;refine getItem_str (by simp;omega) (c:=ch) ?_ (TQ.toks (.str _ _ ?_) S m qq)
   ·have:seqIndex? i x.length=some i.toNat:=OG (by unfold Dj;exact rl (if_pos h1) (rl (if_pos (show i<((x.length:Nat):Int) from show i<((x.cps.size:Nat):Int) from Int.lt_of_toNat_lt hlt)) rfl));refine rl this ?_;exact h3
   ·have hm:=Array.mem_of_getElem? h3;exact LR (l:=[ch]) (by intro c hc;refine rl (mem_singleton.mp hc) ?_;exact LB hx hm)
  |_=>exact q.elim
 |_=>exact q.elim
theorem VRs.filterMap{xs:List AV}{vs:List Value}(h:VRs xs vs):∀ks:List Nat,VRs (ks.filterMap (xs[·]?)) (ks.filterMap (vs[·]?))
 |[]=>.nil
 |k::r=>by
  have ih:=VRs.filterMap h r;dsimp only[filterMap_cons];cases e:xs[k]? with
  |none=>
   have:vs[k]? =none:=by rw[List.getElem?_eq_none_iff]at e⊢;refine rl h.length.symm ?_;exact e
   refine rl this ?_;exact ih
  |some a=>
   refine e12 (h.get e) λv hv hr=>?_;refine rl hv ?_;exact .cons hr ih
theorem U1{x:Str}{a b:Nat}{l u:Option (Int×Tok)}(hab:a<=b)(hb:b<=x.length)(hl:l.map (·.1)=some (a:Int)\/(l=none/\a=0))(hu:u.map (·.1)=some (b:Int)\/(u=none/\b=x.length)):slicePicked x l u none=Builtin.Str.strSliceIndices (some (a:Int)) (some (b:Int)) 1 x.length:=by
 show Builtin.Str.strSliceIndices _ _ 1 x.length=_;rcases hl with hl|⟨rfl,rfl⟩<;>rcases hu with hu|⟨rfl,rfl⟩
 ·exact rl hl (rl hu rfl)
 ·refine rl hl ?_;exact StrLaws.sliceIdx_none_hi _ _
 ·refine rl hu ?_;exact StrLaws.sliceIdx_none_lo _ _
 ·exact(StrLaws.sliceIdx_none_lo _ _).trans (StrLaws.sliceIdx_none_hi _ _)
theorem LJ{x:Str}:x.cps.toList.length=x.length:=by simp[Str.length]
set_option tactic.hygienic true in
theorem OA{x:Str}{tk:Tok}{a b:Nat}{l u:Option (Int×Tok)}{z:Addr}(hx:PyData.strOk x=true)(hab:a<=b)(hb:b<=x.length)(hz:x.length<=sizeLine)(hl:l.map (·.1)=some (a:Int)\/(l=none/\a=0))(hu:u.map (·.1)=some (b:Int)\/(u=none/\b=x.length))(q:Q (.str ⟨((x.cps.toList.drop a).take (b - a)).toArray⟩) H)(hsl:s.heap.IsSlice z l u none)(S:St g.c R H s.heap)(m:Sm s₀ s) :
  wpAny (model g.c.prog g.c.w) A (getItem (.str x tk) (.ref z)) (TQ g R s₀ Q) E s:=by
 refine wpAny_getItem_str_slice hsl rfl ?_;have e0:=U1 hab hb hl hu;have el:(slicePicked x l u none).length=b - a:=by
  rw[e0,StrLaws.strSliceIndices_plain hab hb,length_map,length_range]
 have e:(slicePicked x l u none).filterMap (x.cps[·]?)=(x.cps.toList.drop a).take (b - a):=by
  rw[e0];exact StrLaws.sliced_plain x hab hb
 unfold sliceMade;split
 ·rename_i hc;refine TQ.pure (.str _ tk hx) S m ?_;have hc':b - a=x.length:=by
   have:=(Bool.and_eq_true_iff.mp hc).2;rw[el]at this;simpa using this
  have:(⟨((x.cps.toList.drop a).take (b - a)).toArray⟩:Str)=x:=by
   exact rl hc' (rl (show a=0 by omega) (rl drop_zero (rl (take_of_length_le (le_of_eq LJ)) (rl Array.toArray_toList rfl))))
  rw[this]at q;exact q
 ·rw[e];refine⟨?_,TQ.toks (.str _ _ ?_) S m q⟩
  ·show(List.toArray _).size<=sizeLine;rw[size_toArray,length_take,length_drop,LJ];exact Kx hz
  ·exact LR λch hc=>LB hx (by have:=List.mem_of_mem_drop (mem_of_mem_take hc);simpa using this)
theorem part_of{x:Option AV}{v:Value}{k:Option Int}(h:(x=none/\v = .none)\/∃y,x=some y/\VR y v)(e:EQ x=some k):IsPart v k:=by
 rcases h with⟨rfl,rfl⟩|⟨y,rfl,hv⟩
 ·obtain rfl:=Ak e;exact .none
 ·cases hv<;>cases e
  exact .int _ _
theorem Md{v:Value}(h:((none:Option AV)=none/\v = .none)\/∃y,(none:Option AV)=some y/\VR y v):v = .none:=h.elim (·.2) λ⟨_,e,_⟩=>by trivial
theorem PA{v:Value}{i:Int}(h:(some (AV.int i)=none/\v = .none)\/∃y,some (AV.int i)=some y/\VR y v):∃t,v = .int i t:=by
 rcases h with⟨z,_⟩|⟨y,z,hv⟩
 ·trivial
 ·obtain rfl:=Ak z;cases hv with
  |int _ t=>exact⟨t,rfl⟩
theorem WO{value:Expr}{lo hi st:Option Expr}{p:Pos}{a:AV}{l u t:Option AV}{o vl vu vt:Value}(hu:VR a o)
  (hl:(l=none/\vl = .none)\/∃x,l=some x/\VR x vl)(hh:(u=none/\vu = .none)\/∃x,u=some x/\VR x vu)(ht:(t=none/\vt = .none)\/∃x,t=some x/\VR x vt)
  (S:St g.c R H s.heap)(m:Sm s₀ s)(q:EK a l u t Q H) :
  wpAny (model g.c.prog g.c.w) A (subscriptTail value (.Slice lo hi st p) o (.ref s.heap.objs.size)) (TQ g R s₀ Q) E {s with heap:=s.heap.push {cls:=.type "slice",data:=.fields #[vl,vu,vt]}}:=by
 have hs:∀o j,∃ops,subscripted (.Slice lo hi st p) false o j=operate ops (getItem o j):=by
  intro o j;cases st with
  |none=>exact⟨_,rfl⟩
  |some _=>exact⟨_,rfl⟩
 cases hu with
 |ref pa=>
  obtain⟨oo,e⟩:∃oo,H pa=oo:=⟨_,rfl⟩
  rw[Q7,e]at q;cases oo with
  |none=>exact q.elim
  |some oo=>
  cases oo with
  |list xs=>
   refine e36 q λli ui ti e1 e2 e3 h0 hz qq=>e23 (Cj S e) λvs n k1 k2 k3=>e11 (hs (.ref pa) (.ref s.heap.objs.size)) λops hop=>tail_any (Heap.IsList.typeIs (s:={s with heap:=s.heap.push _}) (k3.push _)) slot_list_getitem.lookup (wpAny_getItem_list_slice (k3.push _) (Heap.IsSliceOf.new ..) (part_of hl e1) (part_of hh e2) (part_of ht e3) h0 ?_ (by simp only[size_toArray];refine rl k2.length.symm ?_;exact hz)) hop;have hp:VRs (DO xs li ui ti) (DO vs li ui ti):=by
    unfold DO;refine rl k2.length ?_;exact k2.filterMap _
   dsimp only;refine rl (Heap.size_push ..)<|FZ (n:=0) (vs:=DO vs li ui ti) S m hp (le_succ _) (λ_ _ z=>Heap.get?_push_of_some _ (Heap.get?_push_of_some _ z)) (by refine rl (Heap.size_push ..) (rl (Heap.size_push ..) ?_);exact Nat.le_add_right _ 2) ?_ qq;have:=Heap.get?_push_size (s.heap.push {cls:=.type "slice",data:=.fields #[vl,vu,vt]}) (o:={cls:=.type "list",data:=.seq (slicePick vs.toArray li ui ti)}) rfl;rw[Heap.size_push]at this;refine rl this ?_;simp[slicePick,DO]
  |_=>exact q.elim
 |str x tk hx=>
  refine e11 (hs (.str x tk) (.ref s.heap.objs.size)) λops hop=>tail_any (typeIs_str _ _ tk) slot_str_getitem.lookup ?_ hop;cases t with
  |some=>cases l with
   |none=>cases u with
    |none=>exact q.elim
    |some y=>cases y<;>exact q.elim
   |some y=>cases u<;>cases y<;>exact q.elim
  |none=>
  cases Md ht;cases l with
  |none=>cases u with
   |none=>exact q.elim
   |some y=>cases y with
    |int ui=>
     rw[RZ]at q;refine EU q λh1 h2 h3 qq=>?_;cases Md hl;refine e11 (PA hh) λt1 z11=>?_;obtain rfl:=z11;refine OA (s:={s with heap:=_}) (a:=0) (b:=ui.toNat) (l:=none) (u:=some (ui,t1)) hx (zero_le _) (Int.toNat_le.mpr h2) h3 (.inr ⟨rfl,rfl⟩) (.inl (by show some ui=_;exact rl (toNat_of_nonneg h1) rfl)) ?_ ⟨_,Heap.get?_push_size _ rfl,rfl,rfl⟩ (S.push _) (m.heap _);refine rl (drop_zero ..) (rl (Nat.sub_zero ..) ?_);exact qq
    |_=>exact q.elim
  |some y=>cases u with
   |some=>cases y<;>exact q.elim
   |none=>cases y with
    |int li=>
     rw[RY]at q;refine EU q λh1 h2 h3 qq=>?_;cases Md hh;refine e11 (PA hl) λt1 z21=>?_;obtain rfl:=z21;refine OA (s:={s with heap:=_}) (a:=li.toNat) (b:=x.length) (l:=some (li,t1)) (u:=none) hx (Int.toNat_le.mpr h2) (le_refl _) h3 (.inl (by show some li=_;exact rl (toNat_of_nonneg h1) rfl)) (.inr ⟨rfl,rfl⟩) ?_ ⟨_,Heap.get?_push_size _ rfl,rfl,rfl⟩ (S.push _) (m.heap _);refine rl (take_of_length_le (by rw[length_drop,LJ];exact le_refl _)) ?_;exact qq
    |_=>exact q.elim
 |_=>exact q.elim
end
section
variable{g:Gx}{A:Around}{R:RR}{s₀ s:Shared}{H:Ac}{E:Value->Shared->Prop}{Q:AV->Ac->Prop}
theorem SA(hu:VR a u)(S:St g.c R H s.heap)(m:Sm s₀ s)(hk:DA H a=some k)(hty:ty="int"\/ty="bool"\/ty="str"\/ty="list")
  (hb:(k==ty||(k=="bool"&&ty=="int"))=b)(q:Q (.bool b) H):wpAny (model g.c.prog g.c.w) A (call (.builtin "isinstance") [u,.type ty]) (TQ g R s₀ Q) E s:=by
 subst hb;cases hu with
 |none=>
  obtain rfl:=Ak hk;rcases hty with rfl|rfl|rfl|rfl
  ·exact IsiPair.NoneType_int (TQ.toks (.bool _) S m q)
  ·exact IsiPair.NoneType_bool (TQ.toks (.bool _) S m q)
  ·exact IsiPair.NoneType_str (TQ.toks (.bool _) S m q)
  ·exact IsiPair.NoneType_list (TQ.toks (.bool _) S m q)
 |bool b=>
  obtain rfl:=Ak hk;rcases hty with rfl|rfl|rfl|rfl
  ·exact IsiPair.bool_int (TQ.pure (.bool _) S m q)
  ·exact IsiPair.bool_bool (TQ.pure (.bool _) S m q)
  ·exact IsiPair.bool_str (TQ.toks (.bool _) S m q)
  ·exact IsiPair.bool_list (TQ.toks (.bool _) S m q)
 |int i t=>
  obtain rfl:=Ak hk;rcases hty with rfl|rfl|rfl|rfl
  ·exact IsiPair.int_int (TQ.pure (.bool _) S m q)
  ·exact IsiPair.int_bool (TQ.toks (.bool _) S m q)
  ·exact IsiPair.int_str (TQ.toks (.bool _) S m q)
  ·exact IsiPair.int_list (TQ.toks (.bool _) S m q)
 |str x t hx=>
  obtain rfl:=Ak hk;rcases hty with rfl|rfl|rfl|rfl
  ·exact IsiPair.str_int (TQ.toks (.bool _) S m q)
  ·exact IsiPair.str_bool (TQ.toks (.bool _) S m q)
  ·exact IsiPair.str_str (TQ.pure (.bool _) S m q)
  ·exact IsiPair.str_list (TQ.toks (.bool _) S m q)
 |ref p=>
  obtain⟨oo,e⟩:∃oo,H p=oo:=⟨_,rfl⟩
  unfold DA at hk;dsimp only at hk;rw[e]at hk;cases oo with
  |none=>trivial
  |some oo=>
  cases oo with
  |list xs=>
   obtain rfl:=Ak hk;refine e23 (Cj S e) λvs n h1 h2 h3=>?_;rcases hty with rfl|rfl|rfl|rfl
   ·exact IsiPair.list_int h1 rfl (TQ.toks (.bool _) S m q)
   ·exact IsiPair.list_bool h1 rfl (TQ.toks (.bool _) S m q)
   ·exact IsiPair.list_str h1 rfl (TQ.toks (.bool _) S m q)
   ·exact IsiPair.list_list h1 rfl (TQ.pure (.bool _) S m q)
  |tuple xs=>
   obtain rfl:=Ak hk;refine e23 (Ed S e) λvs n h1 h2 h3=>?_;rcases hty with rfl|rfl|rfl|rfl
   ·exact IsiPair.tuple_int h1 rfl (TQ.toks (.bool _) S m q)
   ·exact IsiPair.tuple_bool h1 rfl (TQ.toks (.bool _) S m q)
   ·exact IsiPair.tuple_str h1 rfl (TQ.toks (.bool _) S m q)
   ·exact IsiPair.tuple_list h1 rfl (TQ.toks (.bool _) S m q)
  |dict ep es=>
   obtain rfl:=Ak hk;obtain⟨kvs,⟨o,ents,h1,h2,h3⟩,hr⟩:=DG S e;rcases hty with rfl|rfl|rfl|rfl
   ·exact IsiPair.dict_int h1 h2.1 (TQ.toks (.bool _) S m q)
   ·exact IsiPair.dict_bool h1 h2.1 (TQ.toks (.bool _) S m q)
   ·exact IsiPair.dict_str h1 h2.1 (TQ.toks (.bool _) S m q)
   ·exact IsiPair.dict_list h1 h2.1 (TQ.toks (.bool _) S m q)
  |_=>trivial
noncomputable def JM:Pr->Value
 | .len=>.builtin "len"
 | .list=>.type "list"
 | .int=>.type "int"
 | .range=>.type "range"
 | .sum=>.builtin "sum"
 | .all=>.builtin "all"
 | .min=>.builtin "min"
 | .max=>.builtin "max"
 | .min3=>.builtin "min"
 | .dict=>.type "dict"
noncomputable def J8:String->Value
 | "len"=>.builtin "len"
 | "list"=>.type "list"
 | "int"=>.type "int"
 | "range"=>.type "range"
 | "sum"=>.builtin "sum"
 | "all"=>.builtin "all"
 | "min"=>.builtin "min"
 | "max"=>.builtin "max"
 | "isinstance"=>.builtin "isinstance"
 | "bool"=>.type "bool"
 | "str"=>.type "str"
 | "ValueError"=>.type "ValueError"
 | "enumerate"=>.type "enumerate"
 | "dict"=>.type "dict"
 |_=>.builtin "?"
theorem Tm(f:Pr):J8 f.str=JM f:=by cases f<;>rfl
theorem TG(f:Pr):(∃i,JM f = .builtin i)\/∃i,JM f = .type i:=by
 cases f<;>first|exact .inl ⟨_,rfl⟩|exact .inr ⟨_,rfl⟩
theorem St.kept(ev:Ev g A R e₀ l₀)(S:St g.c R H h)(k:∀b o,h.get? b=some o->h'.get? b=some o):St g.c R H h':=by
 refine e11 ((ev.stk e₀ (mem_cons_self ..)).ns) λm hm=>e32 ((S.res _ _ hm).2) λo _ _ w _=>?_;have h1:=(S.res _ _ hm).1;have h2:=BR (k _ _ w);obtain⟨H₁,⟨s1,s2,s3,D,s4⟩,r⟩:=S;exact⟨H₁,⟨λb o e=>k b o (s1 b o e),le_of_lt (lt_of_le_of_lt h1 h2),λb r e=>⟨(s3 b r e).1,(s3 b r e).2.agree λ_=>k _ _⟩,D,
  ⟨λa o e=>(s4.rep a o e).agree (λ_=>k _ _) λ_ _ _=>⟨rfl,λ_=>k _ _⟩,s4.above,s4.dict,s4.inj⟩⟩,r⟩
theorem Ue{K:Type}{kvs:List (K×Value)}(h:ItemsOf (λi v=>∃k,kvs[i]? =some (k,v)) acc kvs.length):acc.toList=kvs.map (·.2):=by
 exact Ap h λh1 h2=>kdl_vals_eq acc.toList (by simpa using h1) λj v e=>h2 j v (by simpa using e)
theorem VRs.of_get(hl:as.length=vs.length)(h:∀(i:Nat) a v,as[i]? =some a->vs[i]? =some v->VR a v):VRs as vs:=by
 induction as generalizing vs with
 |nil=>cases vs with
  |nil=>exact .nil
  |cons=>trivial
 |cons a as ih=>cases vs with
  |nil=>trivial
  |cons v vs=>exact .cons (h 0 a v rfl rfl) (ih (Nat.succ.inj hl) λi=>h (i+1))
theorem DRs.key(h:DRs es kvs):∀{k:Nat} {n:Str} {v:Value},kvs[k]? =some (n,v)->∃a,es[k]? =some (n,a)/\PyData.strOk n=true:=by
 induction h with
 |nil=>intro k n a e;simp at e
 |cons h1 h2 _ ih=>
  intro k n a e;cases k with
  |zero=>simp at e;obtain⟨rfl,rfl⟩:=e;exact⟨_,rfl,h1⟩
  |succ k=>exact ih (by simpa using e)
theorem NZ(h:(PySem.strKind prog w).is k key=true):∃t,key = .str k t:=by
 cases key<;>simp[PySem.strKind,Value.isStrOf]at h
 subst h;exact⟨_,rfl⟩
theorem VRs.refs:∀{as:List Addr},VRs (as.map .ref) (as.map Value.ref)
 |[]=>.nil
 |_::_=>.cons (.ref _) VRs.refs
theorem WQ(C:g.c.Ok mg mb)(ev:Ev g A R e₀ l₀)(S:St g.c R H s.heap)(m:Sm s₀ s)(q:BS g.md .list [.ref p] Q H) :
  wpAny (model g.c.prog g.c.w) A (call (.type "list") [.ref p]) (TQ g R s₀ Q) E s:=by
 obtain⟨oo,e⟩:∃oo,H p=oo:=⟨_,rfl⟩
 rw[Gc,e]at q;cases oo with
 |none=>exact q.elim
 |some oo=>
 cases oo with
 |list xs=>
  refine e23 (Cj S e) λvs n k1 k2 k3=>?_;have hl:=k2.length;exact call_list_seq (hsz:=by simp only[size_toArray];exact rl hl.symm q.1) _ (.inl rfl) k1 rfl rfl λh' c' hk hD=>FZ (s:=s) S m k2 (le_refl _) hk (le_of_lt (BR hD)) hD q.2
 |tuple xs=>
  refine e23 (Ed S e) λvs n k1 k2 k3=>?_;have hl:=k2.length;exact call_list_seq (hsz:=by simp only[size_toArray];exact rl hl.symm q.1) _ (.inr rfl) k1 rfl rfl λh' c' hk hD=>FZ (s:=s) S m k2 (le_refl _) hk (le_of_lt (BR hD)) hD q.2
 |dict ep es=>
  refine Br q λhmd hz q=>e12 (DG S e) λkvs hd hr=>?_;have hl:=hr.length;refine kdl_call (kdl_dict (knd:=strKind g.c.prog g.c.w) (kvs:=kvs) (ep:=ep) (I8 C S e)) (ev.aok.hand hmd) hd (by exact rl hl hz) λh' tk acc' c' hk hD hi=>?_;have hvr:VRs (es.map λe=>AV.str e.1) acc'.toList:=by
   refine VRs.of_get (by refine rl (length_map ..) (rl (Eq.symm (hl ..)) (rl (Eq.symm (hi.1 ..)) ?_));rfl) λi a v h1 h2=>?_;obtain⟨k,x,h3,h4⟩:=hi.2 i v (by simpa using h2);obtain⟨t,rfl⟩:=NZ h4;refine e12 (hr.key h3) λav h5 h6=>?_;rw[getElem?_map,h5]at h1;obtain rfl:=Ak h1;exact .str _ _ h6
  exact FZ (s:=s) (n:=c') S m hvr (le_refl _) hk (le_of_lt (BR hD)) (by exact rl hD rfl) q
 |vals d=>
  obtain⟨oo,e'⟩:∃oo,H d=oo:=⟨_,rfl⟩
  dsimp only at q;rw[e']at q;cases oo with
  |none=>exact q.elim
  |some oo=>
  cases oo with
  |dict ep es=>
   refine Br q λhmd hz q=>e12 (DG S e') λkvs hd hr=>?_;have hl:=hr.length;obtain⟨⟨D,hv⟩,_⟩:=S.orep e;refine kdl_call (kdl_values (knd:=strKind g.c.prog g.c.w) (kvs:=kvs) (ep:=ep)) (ev.aok.hand hmd) ⟨⟨_,hv,rfl,rfl⟩,hd⟩ (by refine rl hl ?_;exact hz) λh' tk acc' c' hk hD hi=>?_;refine FZ (s:=s) (n:=c') S m (vs:=acc'.toList) ?_ (le_refl _) hk (le_of_lt (BR hD)) (by exact rl hD rfl) q;refine rl (Ue hi) ?_;exact hr.vals
  |_=>exact q.elim
 |_=>exact q.elim
theorem OH{ns:List Int}:∀{k:Nat},k<=ns.length->(∀i x,ns[i]? =some x->val i=x)->preSum val k=(ns.take k).sum
 | 0,_,_=>by simp[preSum]
 |k+1,hk,h=>by
  have hlt:k<ns.length:=hk;have e:ns[k]? =some ns[k]:=by simp[hlt]
  rw[preSum,OH (le_of_lt hlt) h,take_add_one,List.sum_append,e,h k _ e];show _=_+List.sum [ns[k]];simp
theorem VRs.ints{ns:List Int}(h:VRs (ns.map .int) vs):∀(i:Nat) v,vs[i]? =some v->∃t,v = .int ((ns[i]?).getD 0) t:=by
 intro i v e;have hl:=h.length;rw[length_map]at hl;have hi:i<ns.length:=by have:=(AJ e).1;lia
 obtain⟨v',h1,h2⟩:=h.get (i:=i) (a:=.int ns[i]) (by simp[hi]);rw[e]at h1;obtain rfl:=Ak h1;cases h2 with
 |int _ t=>exact⟨t,by simp[hi]⟩
theorem WI{ns:List Int}:preSum (λi=>(ns[i]?).getD 0) ns.length=ns.sum:=by
 exact rl (OH (le_refl _) (λi x e=>by simp[e])) (rl take_length rfl)
theorem Sb{p:Addr}(ev:Ev g A R e₀ l₀)(S:St g.c R H s.heap)(m:Sm s₀ s)(q:BS g.md .sum [.ref p] Q H) :
  wpAny (model g.c.prog g.c.w) A (call (.builtin "sum") [.ref p]) (TQ g R s₀ Q) E s:=by
 rw[IC]at q;refine Ap q λhmd q=>call_sum_walkG ?_;have hlt:∀{b o},s.heap.get? b=some o->b≠s.heap.objs.size:=λe=>ne_of_lt (BR e);obtain⟨oo,e⟩:∃oo,H p=oo:=⟨_,rfl⟩
 rw[e]at q;cases oo with
 |none=>exact q.elim
 |some oo=>
 cases oo with
 |list xs=>
  obtain⟨ns,rfl,q⟩:=q;refine e23 (Cj S e) λvs n k1 k2 k3=>?_;have hl:=k2.length;rw[length_map]at hl;have W:=Walks.list (prog:=g.c.prog) (w:=g.c.w) (A:=A.in1) (ev.aok.hand hmd) _ _ (hlt k1) vs.toArray;refine wpAny_pyIter_list k3 ⟨_,_,_,_,_,_,λi=>(ns[i]?).getD 0,rfl,W,⟨⟨_,Heap.get?_push_size _ rfl,rfl,rfl⟩,k3.push _⟩,λb hb=>?_,λi v h=>k2.ints i v (by simpa using h),λh' tk t' hk=>?_⟩
  ·have:=BR k1;simp only[mem_cons,not_mem_nil,or_false]at hb;rcases hb with rfl|rfl
   ·show _<(Heap.push _ _).objs.size;exact rl (Heap.size_push ..) (lt_succ_self _)
   ·show _<(Heap.push _ _).objs.size;exact rl (Heap.size_push ..) (Nat.lt_succ_of_lt this)
  ·exact rl size_toArray (rl hl.symm (rl WI ⟨_,_,.int _ _,S.kept ev λb o w=>hk b o (by simp only[mem_singleton];exact hlt w) (Heap.get?_push_of_some _ w),m.step _ _,q⟩))
 |_=>exact q.elim
theorem S0(C:g.c.Ok mg mb)(hv:VR a u)(S:St g.c R H s.heap)(m:Sm s₀ s)(q:G3 a Q H):wpAny (model g.c.prog g.c.w) A (call (.builtin "len") [u]) (TQ g R s₀ Q) E s:=by
 cases hv with
 |str s' t hs=>exact len_str (by have:=q.1;exact HK this) (TQ.toks (.int _ _) S m q.2)
 |ref p=>
  obtain⟨oo,e⟩:∃oo,H p=oo:=⟨_,rfl⟩
  dsimp only[G3]at q;rw[e]at q;cases oo with
  |none=>exact q.elim
  |some oo=>
  cases oo with
  |list xs=>
   refine e23 (Cj S e) λvs n k1 k2 k3=>?_;have hl:=k2.length;refine call_len_list k3 (by simp only[size_toArray];have:=q.1;exact Hp this hl) (TQ.toks (.int _ _) S m ?_);simp only[size_toArray];exact rl hl.symm q.2
  |tuple xs=>
   refine e23 (Ed S e) λvs n k1 k2 k3=>?_;have hl:=k2.length;refine PyProof.Rows.len_tuple k3 (by simp only[size_toArray];have:=q.1;exact Hp this hl) (TQ.toks (.int _ _) S m ?_);simp only[size_toArray];exact rl hl.symm q.2
  |dict ep es=>
   refine e12 (DG S e) λkvs hd hr=>?_;have hl:=hr.length;exact call_len_dict (I8 C S e) hd.dictOf (by have:=q.1;exact KU this hl) (TQ.toks (.int _ _) S m (rl hl q.2))
  |script ns=>
   obtain⟨⟨D,vs,n,k1,k2⟩,_⟩:=S.orep e;have hl:=k2.length;rw[length_map]at hl;refine call_len_list (items:=vs.toArray) ⟨_,k1,rfl,_,rfl⟩ (by simp only[size_toArray];have:=q.1;exact Hp this hl) (TQ.toks (.int _ _) S m ?_);simp only[size_toArray];exact rl hl.symm q.2
  |_=>exact q.elim
 |_=>exact q.elim
theorem PP{as:List AV}{vs:List Value}{k:Int->Int->Prop}{m:List Value->Prop}(hv:VRs as vs)(q:Nd as k)(f:∀x y t t',k x y->m [.int x t,.int y t']):m vs:=by
 cases hv with
 |nil=>exact q.elim
 |cons h1 hr=>exact Fc (m:=λr=>m (_::r)) hr q λb v h2 q=>EG (m:=λu v=>m [u,v]) h1 h2 q f
theorem Se(S:St g.c R H s.heap)(m:Sm s₀ s)(q:EZ a b/\∀z,H z=none->Q (.ref z) (up H z (.range a b))):wpAny (model g.c.prog g.c.w) A (call (.type "range") [.int a t,.int b u]) (TQ g R s₀ Q) E s:=by
 refine call_range_2 ?_;obtain⟨e,S'⟩:=S.newObj (o:=.range _ _) (le_refl _) (λ_ _ z=>Heap.get?_push_of_some _ z) (rl (Heap.size_push ..) (le_succ _)) (by intro _ _ z;trivial) (λD=>⟨q.1,_,_,_,Heap.get?_push_size _ rfl⟩);exact⟨_,_,.ref _,S',m.step _ _,q.2 _ e⟩
theorem XZ(S:St g.c R H s.heap)(m:Sm s₀ s)(q:(-(2 ^ 62)<b/\b<2 ^ 62)/\∀z,H z=none->Q (.ref z) (up H z (.range 0 b))):wpAny (model g.c.prog g.c.w) A (call (.type "range") [.int b t]) (TQ g R s₀ Q) E s:=by
 refine call_range_1 ?_;obtain⟨e,S'⟩:=S.newObj (o:=.range 0 _) (le_refl _) (λ_ _ z=>Heap.get?_push_of_some _ z) (rl (Heap.size_push ..) (le_succ _)) (by intro _ _ z;trivial) (λD=>⟨⟨by decide,by decide,q.1.1,q.1.2⟩,_,_,_,Heap.get?_push_size _ rfl⟩);exact⟨_,_,.ref _,S',m.step _ _,q.2 _ e⟩
theorem VRs.unc(h:VRs (a::as) vs):∃v r,vs=v::r/\VR a v/\VRs as r:=by
 cases h with
 |cons h1 hr=>exact⟨_,_,rfl,h1,hr⟩
theorem VRs.unn(h:VRs [] vs):vs=[]:=by cases h;rfl
theorem VR.unr(h:VR (.ref a) v):v = .ref a:=by cases h;rfl
theorem VR.uns(h:VR (.str k) v):∃t,v = .str k t/\PyData.strOk k=true:=by
 cases h with
 |str k t hs=>exact⟨t,rfl,hs⟩
theorem U3(S:St g.c R H s.heap)(r:PairsL H xs es):∀{vs:List Value},VRs xs vs->∃kvs:List (Str×Value),DRs es kvs/\vs.length=kvs.length/\
  ∀(j:Nat) v kv,vs[j]? =some v->kvs[j]? =some kv->∃T key o n,v = .ref T/\s.heap.get? T=some o/\o.cls = .type "tuple"/\o.data = .seq #[key,kv.2] n/\(strKind g.c.prog g.c.w).is kv.1 key=true:=by
 induction r with
 |nil=>exact λh=>⟨[],.nil,by rw[h.unn];rfl,λj v kv h1 h2=>by trivial⟩
 |cons h r ih=>
  intro vs hv;refine e23 hv.unc λv0 r0 e h1 hr=>e13 (ih hr) λkvs q1 q2 q3=>e23 (Ed S h) λws n k1 k2 k3=>e23 k2.unc λw1 r1 e1 a1 k2=>e23 k2.unc λw2 r2 e2 a2 k2=>e12 a1.uns λt e3 hs=>?_;rw[e1,e2,k2.unn,e3]at k1;refine⟨(_,w2)::kvs,.cons hs a2 q1,by rw[e];exact congrArg (· + 1) q2,λj v kv hj hk=>?_⟩;rw[e]at hj;cases j with
  |zero=>rw[<-Ak hj,<-Ak hk];exact⟨_,_,_,_,h1.unr,k1,rfl,rfl,strKind_is _ _ _ _⟩
  |succ j=>exact q3 j v kv hj hk
theorem DRs.nodup(h:DRs es kvs):es.map (·.1)=kvs.map (·.1):=by
 induction h with
 |nil=>rfl
 |cons _ _ _ ih=>exact congrArg (_::·) ih
theorem W1(hh:A.handled=none)(S:St g.c R H s.heap)(m:Sm s₀ s)(e:H p=some (.list xs))(hz:xs.length<=sizeLine)(hp:PairsL H xs es)(nd:(es.map (·.1)).Nodup)(q:∀z ep,H z=none->Q (.ref z) (up H z (.dict ep es))) :
  wpAny (model g.c.prog g.c.w) A (call (.type "dict") [.ref p]) (TQ g R s₀ Q) E s:=by
 refine e23 (Cj S e) λvs n k1 k2 k3=>e13 (U3 S hp k2) λkvs q1 q2 q3=>Ta (knd:=strKind g.c.prog g.c.w) (kvs:=kvs) hh k1 (by simpa using q2) (by have:=k2.length;exact HE this hz q2) (λj v kv a b=>q3 j v kv (by simpa using a) b) λh' tk hd hk=>?_;rw[merged_nil_of_nodup kvs (q1.nodup▸nd)]at hd;refine e11 hd.dictAt λep hat=>e22 (id hat) λo _ ho _=>?_;have:=BR ho;obtain⟨hn,S'⟩:=S.newObj (o:=.dict ep es) (le_refl _) hk (by lia) (by intro _ _ z;trivial) λD=>⟨kvs,hat,q1⟩
 exact⟨_,_,.ref _,S',m.step _ _,q _ ep hn⟩
set_option tactic.hygienic true in
theorem X_{f:Pr}{as:List AV}{vs:List Value}{e₀:Env}{l₀:List Env}{mg mb:Str->Option Value}(C:g.c.Ok mg mb)(ev:Ev g A R e₀ l₀)(hv:VRs as vs)(S:St g.c R H s.heap)(m:Sm s₀ s)(q:BS g.md f as Q H) :
  wpAny (model g.c.prog g.c.w) A (call (JM f) vs) (TQ g R s₀ Q) E s:=by
 cases f with
 |len=>exact Fc (m:=λvs=>wpAny _ A (call (.builtin "len") vs) (TQ g R s₀ Q) E s) hv q λa v h q=>S0 C h S m q
 |list=>
  refine Fc (m:=λvs=>wpAny _ A (call (.type "list") vs) (TQ g R s₀ Q) E s) hv q λa v h q=>?_;cases h with
  |ref p=>exact WQ C ev S m q
  |_=>exact q.elim
 |int=>
  refine Fc (m:=λvs=>wpAny _ A (call (.type "int") vs) (TQ g R s₀ Q) E s) hv q λa v h q=>?_;cases h with
  |bool b=>exact call_int_bool (TQ.toks (.int _ _) S m q)
  |_=>exact q.elim
 |range=>
  cases hv with
  |nil=>exact q.elim
  |cons h1 hr=>cases hr with
   |nil=>cases h1 with
    |int b t=>exact XZ S m q
    |_=>exact q.elim
   |cons h2 hr=>
    have q:Ct (_::_) (λb=>F5 _ b λa b=>EZ a b/\∀z,H z=none->Q (.ref z) (up H z (.range a b))):=q;exact Fc (m:=λr=>wpAny _ A (call (.type "range") (_::r)) (TQ g R s₀ Q) E s) (.cons h2 hr) q λb v h2 q=>EG (m:=λu v=>wpAny _ A (call (.type "range") [u,v]) (TQ g R s₀ Q) E s) h1 h2 q λ_ _ _ _ q=>Se S m q
 |sum=>
  refine Fc (m:=λvs=>wpAny _ A (call (.builtin "sum") vs) (TQ g R s₀ Q) E s) hv q λa v h q=>?_;cases h with
  |ref p=>exact Sb ev S m q
  |_=>exact q.2.elim
 |min=>
  refine PP (m:=λvs=>wpAny _ A (call (.builtin "min") vs) (TQ g R s₀ Q) E s) hv q λx y t t' q=>min_two_ints (ev.aok.hand q.1) λh' tk hk=>?_;have q:=q.2;split
  ·rename_i z;rw[if_pos z]at q;exact⟨_,_,.int _ _,S.kept ev hk,m.step _ _,q⟩
  ·rename_i z;rw[if_neg z]at q;exact⟨_,_,.int _ _,S.kept ev hk,m.step _ _,q⟩
 |dict=>
  refine Fc (m:=λvs=>wpAny _ A (call (.type "dict") vs) (TQ g R s₀ Q) E s) hv q λa v h q=>?_;exact JU (m:=λv=>wpAny _ A (call (.type "dict") [v]) (TQ g R s₀ Q) E s) h q.2 λp xs e q'=>let ⟨es,k1,k2,k3,k4⟩:=q';W1 (ev.aok.hand q.1) S m e k1 k2 k3 k4
 |max=>
  refine PP (m:=λvs=>wpAny _ A (call (.builtin "max") vs) (TQ g R s₀ Q) E s) hv q λx y t t' q=>max_two_ints (ev.aok.hand q.1) λh' tk hk=>?_;have q:=q.2;split
  ·rename_i z;rw[if_pos z]at q;exact⟨_,_,.int _ _,S.kept ev hk,m.step _ _,q⟩
  ·rename_i z;rw[if_neg z]at q;exact⟨_,_,.int _ _,S.kept ev hk,m.step _ _,q⟩
 |_=>exact q.elim
theorem VB(hv:VR v u)(S:St g.c R H s.heap)(m:Sm s₀ s)(e:H p=some (.list xs))(hz:xs.length<=sizeLine)(q:Q .none (up H p (.list (xs++[v])))) :
  wpAny (model g.c.prog g.c.w) A (call (.builtin "list.append") [.ref p,u]) (TQ g R s₀ Q) E s:=by
 refine e23 (Cj S e) λvs n k1 k2 k3=>append_at k1 (λh' hs ho=>⟨.none,_,.none,S.setObj (o':=.list (xs++[v])) e (by intro _ _ z;trivial) hs (λD=>⟨vs++[u],n+1,?_,k2.append (.one hv)⟩),m.heap _,q⟩) (by simp only[size_toArray];exact rl k2.length.symm hz);refine rl ho ?_;simp
end
theorem dn{c:Prop}[d:Decidable c]{k:c->Bool}(h:(if h:c then k h else false)=true):∃q,k q=true:=
 match d,h with
 | .isTrue q,h=>⟨q,h⟩
 | .isFalse _,h=>Bool.noConfusion h
theorem Aa(h:(a&&b)=true):a=true/\b=true:=match a,h with
 |true,h=>⟨rfl,h⟩
 |false,h=>Bool.noConfusion h
noncomputable def Qy(e:Expr)(k:PySem.BoolOp->List Expr->Pos->Bool):Bool:=if h:e.ctorIdx=0 then Expr.BoolOp.elim (motive_1:=λ_=>Bool) e h k else false
theorem TY{m:Expr->Prop}(h:Qy e k=true)(f:∀o vs p,k o vs p=true->m (.BoolOp o vs p)):m e:=
 (dn h).elim λq z=>Expr.BoolOp.elim (motive_1:=λe=>∀q,Expr.BoolOp.elim (motive_1:=λ_=>Bool) e q k=true->m e) e q (λo vs p _ z=>f o vs p z) q z
noncomputable def Rb(e:Expr)(k:Expr->Operator->Expr->Pos->Bool):Bool:=if h:e.ctorIdx=2 then Expr.BinOp.elim (motive_1:=λ_=>Bool) e h k else false
theorem UB{m:Expr->Prop}(h:Rb e k=true)(f:∀l o r p,k l o r p=true->m (.BinOp l o r p)):m e:=
 (dn h).elim λq z=>Expr.BinOp.elim (motive_1:=λe=>∀q,Expr.BinOp.elim (motive_1:=λ_=>Bool) e q k=true->m e) e q (λl o r p _ z=>f l o r p z) q z
noncomputable def G0(e:Expr)(k:PySem.UnaryOp->Expr->Pos->Bool):Bool:=if h:e.ctorIdx=3 then Expr.UnaryOp.elim (motive_1:=λ_=>Bool) e h k else false
theorem Pz{m:Expr->Prop}(h:G0 e k=true)(f:∀o x p,k o x p=true->m (.UnaryOp o x p)):m e:=
 (dn h).elim λq z=>Expr.UnaryOp.elim (motive_1:=λe=>∀q,Expr.UnaryOp.elim (motive_1:=λ_=>Bool) e q k=true->m e) e q (λo x p _ z=>f o x p z) q z
noncomputable def Qx(e:Expr)(k:List (Option Expr)->List Expr->Pos->Bool):Bool:=if h:e.ctorIdx=6 then Expr.Dict.elim (motive_1:=λ_=>Bool) e h k else false
theorem G6{m:Expr->Prop}(h:Qx e k=true)(f:∀ks vs p,k ks vs p=true->m (.Dict ks vs p)):m e:=
 (dn h).elim λq z=>Expr.Dict.elim (motive_1:=λe=>∀q,Expr.Dict.elim (motive_1:=λ_=>Bool) e q k=true->m e) e q (λks vs p _ z=>f ks vs p z) q z
noncomputable def Jj(e:Expr)(k:Expr->List Comprehension->Scope->Pos->Bool):Bool:=if h:e.ctorIdx=8 then Expr.ListComp.elim (motive_1:=λ_=>Bool) e h k else false
theorem VQ{m:Expr->Prop}(h:Jj e k=true)(f:∀x gs cs p,k x gs cs p=true->m (.ListComp x gs cs p)):m e:=
 (dn h).elim λq z=>Expr.ListComp.elim (motive_1:=λe=>∀q,Expr.ListComp.elim (motive_1:=λ_=>Bool) e q k=true->m e) e q (λx gs cs p _ z=>f x gs cs p z) q z
noncomputable def MJ(e:Expr)(k:Expr->List CmpOp->List Expr->Pos->Bool):Bool:=if h:e.ctorIdx=15 then Expr.Compare.elim (motive_1:=λ_=>Bool) e h k else false
theorem OP{m:Expr->Prop}(h:MJ e k=true)(f:∀l os rs p,k l os rs p=true->m (.Compare l os rs p)):m e:=
 (dn h).elim λq z=>Expr.Compare.elim (motive_1:=λe=>∀q,Expr.Compare.elim (motive_1:=λ_=>Bool) e q k=true->m e) e q (λl os rs p _ z=>f l os rs p z) q z
noncomputable def ID(e:Expr)(k:Expr->List Expr->List Keyword->Pos->Bool):Bool:=if h:e.ctorIdx=16 then Expr.Call.elim (motive_1:=λ_=>Bool) e h k else false
theorem Lu{m:Expr->Prop}(h:ID e k=true)(f:∀fe as ks p,k fe as ks p=true->m (.Call fe as ks p)):m e:=
 (dn h).elim λq z=>Expr.Call.elim (motive_1:=λe=>∀q,Expr.Call.elim (motive_1:=λ_=>Bool) e q k=true->m e) e q (λfe as ks p _ z=>f fe as ks p z) q z
noncomputable def Qd(e:Expr)(k:Const->Nat->Pos->Bool):Bool:=if h:e.ctorIdx=19 then Expr.Constant.elim (motive_1:=λ_=>Bool) e h k else false
theorem NX{m:Expr->Prop}(h:Qd e k=true)(f:∀c kd p,k c kd p=true->m (.Constant c kd p)):m e:=
 (dn h).elim λq z=>Expr.Constant.elim (motive_1:=λe=>∀q,Expr.Constant.elim (motive_1:=λ_=>Bool) e q k=true->m e) e q (λc kd p _ z=>f c kd p z) q z
noncomputable def GV(e:Expr)(k:Expr->Str->Pos->Bool):Bool:=if h:e.ctorIdx=20 then Expr.Attribute.elim (motive_1:=λ_=>Bool) e h k else false
theorem Jv{m:Expr->Prop}(h:GV e k=true)(f:∀v a p,k v a p=true->m (.Attribute v a p)):m e:=
 (dn h).elim λq z=>Expr.Attribute.elim (motive_1:=λe=>∀q,Expr.Attribute.elim (motive_1:=λ_=>Bool) e q k=true->m e) e q (λv a p _ z=>f v a p z) q z
noncomputable def Kf(e:Expr)(k:Expr->Expr->Pos->Bool):Bool:=if h:e.ctorIdx=21 then Expr.Subscript.elim (motive_1:=λ_=>Bool) e h k else false
theorem ON{m:Expr->Prop}(h:Kf e k=true)(f:∀v i p,k v i p=true->m (.Subscript v i p)):m e:=
 (dn h).elim λq z=>Expr.Subscript.elim (motive_1:=λe=>∀q,Expr.Subscript.elim (motive_1:=λ_=>Bool) e q k=true->m e) e q (λv i p _ z=>f v i p z) q z
noncomputable def GU(e:Expr)(k:Str->Pos->Bool):Bool:=if h:e.ctorIdx=23 then Expr.Name.elim (motive_1:=λ_=>Bool) e h k else false
theorem Fa{m:Expr->Prop}(h:GU e k=true)(f:∀n p,k n p=true->m (.Name n p)):m e:=
 (dn h).elim λq z=>Expr.Name.elim (motive_1:=λe=>∀q,Expr.Name.elim (motive_1:=λ_=>Bool) e q k=true->m e) e q (λn p _ z=>f n p z) q z
noncomputable def Qu(e:Expr)(k:List Expr->Pos->Bool):Bool:=if h:e.ctorIdx=24 then Expr.List.elim (motive_1:=λ_=>Bool) e h k else false
theorem TU{m:Expr->Prop}(h:Qu e k=true)(f:∀es p,k es p=true->m (.List es p)):m e:=
 (dn h).elim λq z=>Expr.List.elim (motive_1:=λe=>∀q,Expr.List.elim (motive_1:=λ_=>Bool) e q k=true->m e) e q (λes p _ z=>f es p z) q z
noncomputable def FK(e:Expr)(k:List Expr->Nat->Pos->Bool):Bool:=if h:e.ctorIdx=25 then Expr.Tuple.elim (motive_1:=λ_=>Bool) e h k else false
theorem J1{m:Expr->Prop}(h:FK e k=true)(f:∀es kd p,k es kd p=true->m (.Tuple es kd p)):m e:=
 (dn h).elim λq z=>Expr.Tuple.elim (motive_1:=λe=>∀q,Expr.Tuple.elim (motive_1:=λ_=>Bool) e q k=true->m e) e q (λes kd p _ z=>f es kd p z) q z
noncomputable def PU(e:Expr)(k:Option Expr->Option Expr->Option Expr->Pos->Bool):Bool:=if h:e.ctorIdx=26 then Expr.Slice.elim (motive_1:=λ_=>Bool) e h k else false
theorem Tr{m:Expr->Prop}(h:PU e k=true)(f:∀l u t p,k l u t p=true->m (.Slice l u t p)):m e:=
 (dn h).elim λq z=>Expr.Slice.elim (motive_1:=λe=>∀q,Expr.Slice.elim (motive_1:=λ_=>Bool) e q k=true->m e) e q (λl u t p _ z=>f l u t p z) q z
noncomputable def Ey(l:List α)(k:α->List α->Bool):Bool:=match l with
 |[]=>false
 |x::r=>k x r
theorem Ef{m:List α->Prop}(h:Ey l k=true)(f:∀x r,k x r=true->m (x::r)):m l:=match l,h with
 |[],h=>Bool.noConfusion h
 |x::r,h=>f x r h
theorem CJ{m:List α->Prop}(h:l.isEmpty=true)(f:m []):m l:=match l,h with
 |[],_=>f
 |_::_,h=>Bool.noConfusion h
noncomputable def FR(l:List α)(k:α->Bool):Bool:=Ey l λx r=>r.isEmpty&&k x
theorem Ge{m:List α->Prop}(h:FR l k=true)(f:∀x,k x=true->m [x]):m l:=
 Ef h λx _ h=>CJ (m:=λr=>m (x::r)) (Aa h).1 (f x (Aa h).2)
noncomputable def Km(l:List α)(k:α->α->Bool):Bool:=Ey l λx r=>FR r (k x)
theorem Mc{m:List α->Prop}(h:Km l k=true)(f:∀x y,k x y=true->m [x,y]):m l:=
 Ef h λx _ h=>Ge (m:=λr=>m (x::r)) h (f x)
noncomputable def GR(o:Option α)(k:α->Bool):Bool:=match o with
 |none=>false
 |some x=>k x
theorem Ju{m:Option α->Prop}(h:GR o k=true)(f:∀x,k x=true->m (some x)):m o:=match o,h with
 |none,h=>Bool.noConfusion h
 |some x,h=>f x h
noncomputable def GY(sc:Scope)(id:Str):Bool:=match sc.names.lookup id with
 |some .local=>true
 |some .cell=>true
 |some .free=>true
 |_=>false
noncomputable def M3(sc:Scope)(id:Str):Bool:=sc.names.lookup id==some .globalImplicit
noncomputable def G8(id:Str):Bool:=!(id==("__debug__":Str))&&!(id==("__classdict__":Str))
noncomputable def Fh(e:Expr):Bool:=e.ctorIdx != 16||ID e λf _ _ _=>GV f λ_ _ _=>true
noncomputable def Ir(e:Expr):Bool:=e.ctorIdx != 26
noncomputable def CL(e:Expr):Bool:=e.ctorIdx != 22
noncomputable def Cb(sc:Scope)(n:String)(e:Expr):Bool:=GU e λid _=>id==ofString n&&M3 sc id&&G8 id
noncomputable def GW(e:Expr):Bool:=e.ctorIdx != 7
noncomputable def IW(e:Expr):Bool:=e.ctorIdx==8
noncomputable def NB(v:AV)(cc:Const):Bool:=match v with
 | .none=>cc==.none
 | .bool a=>cc==.bool a
 | .int a=>cc==.int a
 | .str a=>cc==.str a&&PyData.strOk a
 | .ref _=>false
noncomputable def M4(e:X):Bool:=e.ctorIdx==(X.comp (.var 0) 0 false (.var 0) none).ctorIdx
noncomputable def C6(nm:List Str)(ts:List Str):List Str:=nm.map λx=>if ts.contains x then⟨#[]⟩ else x
noncomputable def Fd:List Expr->List Str->Bool
 |[],ts=>ts.isEmpty
 |e::r,ts=>Ey ts λt q=>(GU e λid _=>id==t)&&Fd r q
noncomputable def Ny(e:Expr):Str:=if h:e.ctorIdx=23 then Expr.Name.elim (motive_1:=λ_=>Str) e h (λn _=>n) else⟨#[]⟩
inductive DZ:Expr->Bool->List Str->Prop
 |name {t p}:DZ (.Name t p) false [t]
 |tup {es k p ts}:Fd es ts=true->DZ (.Tuple es k p) true ts
noncomputable def Ee(sc csc:Scope)(nm ts:List Str):Bool:=
 csc.kind==.function&&ts.all (λt=>csc.names.lookup t==some .local&&t.length != 0&&G8 t)&&decide ts.Nodup&&!nm.contains (ofString ".0") &&
 csc.names.all (λp=>p.2 != .cell&&(p.2 != .local||(csc.names.lookup p.1==some .local&&(ts.contains p.1||p.1==ofString ".0")))&&(p.2 != .free||(sc.names.lookup p.1==some .cell&&nm.contains p.1&&csc.names.lookup p.1==some .free))&&p.1.length != 0)
abbrev EB:=Expr->Bool
section
variable{m:Expr->Prop}{xs:List Expr->Bool}
theorem P4(h:Cb sc n e=true)(f:∀id p,Cb sc n (.Name id p)=true->m (.Name id p)):m e:=Fa h f
noncomputable def Ja(v:AV)(e:Expr):Bool:=Qd e λcc _ _=>NB v cc
noncomputable def Jf(sc:Scope)(nm:List Str)(i:Nat)(e:Expr):Bool:=GU e λid _=>nm[i]?==some id&&GY sc id&&G8 id
theorem VY{i}(h:Jf sc nm i e=true)(f:∀id p,nm[i]? =some id->GY sc id=true->G8 id=true->m (.Name id p)):m e:=
 Fa h λid p h=>have h2:=Aa h;have h1:=Aa h2.1;f id p (eq_of_beq h1.1) h1.2 h2.2
noncomputable def IY(op:Operator)(a b:EB)(e:Expr):Bool:=Rb e λl op' r _=>op'==op&&a l&&b r
theorem Wd(h:IY op a b e=true)(f:∀l r p,a l=true->b r=true->m (.BinOp l op r p)):m e:=
 UB h λl _ r p h=>have h2:=Aa h;have h1:=Aa h2.1;eq_of_beq h1.1▸f l r p h1.2 h2.2
noncomputable def Jb(a:EB)(e:Expr):Bool:=G0 e λo x _=>o==.USub&&a x
theorem Wa(h:Jb a e=true)(f:∀x p,a x=true->m (.UnaryOp .USub x p)):m e:=
 Pz h λ_ x p h=>eq_of_beq (Aa h).1▸f x p (Aa h).2
noncomputable def Jc(a:EB)(e:Expr):Bool:=G0 e λo x _=>o==.Not&&a x
theorem V_(h:Jc a e=true)(f:∀x p,a x=true->m (.UnaryOp .Not x p)):m e:=
 Pz h λ_ x p h=>eq_of_beq (Aa h).1▸f x p (Aa h).2
noncomputable def Rm(isAnd:Bool)(xs:List Expr->Bool)(e:Expr):Bool:=Qy e λop vs _=>(op==(if isAnd then PySem.BoolOp.And else PySem.BoolOp.Or))&&xs vs
theorem Xo(h:Rm isAnd xs e=true)(f:∀vs p,xs vs=true->m (.BoolOp (if isAnd then PySem.BoolOp.And else PySem.BoolOp.Or) vs p)):m e:=
 TY h λ_ vs p h=>eq_of_beq (Aa h).1▸f vs p (Aa h).2
noncomputable def IZ(op:CmpOp)(a b:EB)(e:Expr):Bool:=MJ e λl os rs _=>FR os λop'=>FR rs λr=>op'==op&&!behindInMarks op' r&&a l&&b r
theorem DF{b}(h:(!b)=true):b=false:=match b,h with
 |false,_=>rfl
 |true,h=>Bool.noConfusion h
theorem Wc(h:IZ op a b e=true)(f:∀l r p,behindInMarks op r=false->a l=true->b r=true->m (.Compare l [op] [r] p)):m e:=
 OP h λl os rs p h=>Ge (m:=λos=>m (.Compare l os rs p)) h λo h=>Ge (m:=λrs=>m (.Compare l [o] rs p)) h λr h=>
  have h2:=Aa h;have h1:=Aa h2.1;have h0:=Aa h1.1;eq_of_beq h0.1▸f l r p (eq_of_beq h0.1▸DF h0.2) h1.2 h2.2
noncomputable def N6(op1 op2:CmpOp)(a b d:EB)(e:Expr):Bool:=MJ e λl os rs _=>Km os λo₁ o₂=>Km rs λr₁ r₂=>(o₁==op1&&o₂==op2)&&(!lastMarks [op1,op2] [r₁,r₂]&&a l&&b r₁&&d r₂)
theorem UJ(h:N6 op1 op2 a b d e=true)(f:∀l r₁ r₂ p,lastMarks [op1,op2] [r₁,r₂]=false->a l=true->b r₁=true->d r₂=true->m (.Compare l [op1,op2] [r₁,r₂] p)):m e:=
 OP h λl os rs p h=>Mc (m:=λos=>m (.Compare l os rs p)) h λo₁ o₂ h=>Mc (m:=λrs=>m (.Compare l [o₁,o₂] rs p)) h λr₁ r₂ h=>
  have h4:=Aa h;have h3:=Aa h4.2;have h2:=Aa h3.1;have h1:=Aa h2.1;eq_of_beq (Aa h4.1).1▸eq_of_beq (Aa h4.1).2▸f l r₁ r₂ p (DF h1.1) h1.2 h2.2 h3.2
noncomputable def Jd(a i:EB)(e:Expr):Bool:=Kf e λv sl _=>Ir sl&&a v&&i sl
theorem P8(h:Jd a i e=true)(f:∀v sl p,Ir sl=true->a v=true->i sl=true->m (.Subscript v sl p)):m e:=
 ON h λv sl p h=>have h2:=Aa h;have h1:=Aa h2.1;f v sl p h1.1 h1.2 h2.2
noncomputable def QH(a:EB)(lo hi st:Option Expr->Bool)(e:Expr):Bool:=Kf e λv sl _=>PU sl λl u t _=>a v&&lo l&&hi u&&st t
theorem Ub{lo hi st}(h:QH a lo hi st e=true)(f:∀v l u t p q,a v=true->lo l=true->hi u=true->st t=true->m (.Subscript v (.Slice l u t p) q)):m e:=
 ON h λv sl q h=>Tr (m:=λsl=>m (.Subscript v sl q)) h λl u t p h=>have h3:=Aa h;have h2:=Aa h3.1;have h1:=Aa h2.1;f v l u t p q h1.1 h1.2 h2.2 h3.2
noncomputable def N7(a:EB)(n:String)(e:Expr):Bool:=GV e λv at' _=>at'==ofString n&&Fh v&&a v
theorem UK(h:N7 a n e=true)(f:∀v p,Fh v=true->a v=true->m (.Attribute v (ofString n) p)):m e:=
 Jv h λv _ p h=>have h2:=Aa h;have h1:=Aa h2.1;eq_of_beq h1.1▸f v p h1.2 h2.2
noncomputable def Hf(sc:Scope)(ok:Bool)(f:String)(xs:List Expr->Bool)(e:Expr):Bool:=ID e λfe args ks _=>ks.isEmpty&&Cb sc f fe&&ok&&xs args
theorem Ih(h:Hf sc ok n xs e=true)(f:∀fe args p,Cb sc n fe=true->ok=true->xs args=true->m (.Call fe args [] p)):m e:=
 Lu h λfe args _ p h=>have h3:=Aa h;have h2:=Aa h3.1;have h1:=Aa h2.1;CJ (m:=λks=>m (.Call fe args ks p)) h1.1 (f fe args p h1.2 h2.2 h3.2)
noncomputable def MK(n:String)(a:EB)(xs:List Expr->Bool)(e:Expr):Bool:=ID e λfe args ks pos=>GV fe λo name apos=>(ks.isEmpty&&name==ofString n)&&((apos.endLine==pos.line)&&Fh o&&decide (args.length<29)&&a o&&xs args)
theorem OT(h:MK n a xs e=true)(f:∀o apos args pos,(apos.endLine==pos.line)=true->Fh o=true->args.length<29->a o=true->xs args=true->m (.Call (.Attribute o (ofString n) apos) args [] pos)):m e:=
 Lu h λfe args ks pos h=>Jv (m:=λfe=>m (.Call fe args ks pos)) h λo _ apos h=>
  have h5:=Aa h;have h0:=Aa h5.1;have h4:=Aa h5.2;have h3:=Aa h4.1;have h2:=Aa h3.1;have h1:=Aa h2.1
  eq_of_beq h0.2▸CJ (m:=λks=>m (.Call (.Attribute o _ apos) args ks pos)) h0.1 (eq_of_beq h0.2▸f o apos args pos h1.1 h1.2 (of_decide_eq_true h2.2) h3.2 h4.2)
noncomputable def I_(P:Pg)(sc:Scope)(a:EB)(ty:String)(e:Expr):Bool:=ID e λfe args ks _=>Km args λx t=>(ks.isEmpty&&CL x)&&(Cb sc "isinstance" fe&&P.prims.contains "isinstance"&&(P.prims.contains ty&&["int","bool","str","list"].contains ty)&&Cb sc ty t&&a x)
theorem Wb(h:I_ P sc a ty e=true)(f:∀fe x t p,CL x=true->Cb sc "isinstance" fe=true->P.prims.contains "isinstance"=true->(P.prims.contains ty&&["int","bool","str","list"].contains ty)=true->Cb sc ty t=true->a x=true->m (.Call fe [x,t] [] p)):m e:=
 Lu h λfe args ks p h=>Mc (m:=λargs=>m (.Call fe args ks p)) h λx t h=>
  have h5:=Aa h;have h0:=Aa h5.1;have h4:=Aa h5.2;have h3:=Aa h4.1;have h2:=Aa h3.1;have h1:=Aa h2.1
  CJ (m:=λks=>m (.Call fe [x,t] ks p)) h0.1 (f fe x t p h0.2 h1.1 h1.2 h2.2 h3.2 h4.2)
noncomputable def N4(xs:List Expr->Bool)(e:Expr):Bool:=Qu e λes _=>xs es&&decide (es.length<1000)
theorem UI(h:N4 xs e=true)(f:∀es p,xs es=true->es.length<1000->m (.List es p)):m e:=
 TU h λes p h=>f es p (Aa h).1 (of_decide_eq_true (Aa h).2)
noncomputable def Je(xs:List Expr->Bool)(e:Expr):Bool:=FK e λes _ _=>xs es&&decide (es.length<1000)
theorem VZ(h:Je xs e=true)(f:∀es k p,xs es=true->es.length<1000->m (.Tuple es k p)):m e:=
 J1 h λes k p h=>f es k p (Aa h).1 (of_decide_eq_true (Aa h).2)
noncomputable def ML(ks vs:List X)(mk:List (Option Expr)->Bool)(mv:List Expr->Bool)(e:Expr):Bool:=Qx e λks' vs' _=>match ks,vs with
 |[],[]=>ks'.isEmpty&&vs'.isEmpty
 |[_],[_]=>mk ks'&&mv vs'
 |_,_=>false
theorem Ud(h:ML [] [] mk mv e=true)(f:∀p,m (.Dict [] [] p)):m e:=
 G6 h λks vs p h=>CJ (m:=λks=>m (.Dict ks vs p)) (Aa h).1 (CJ (m:=λvs=>m (.Dict [] vs p)) (Aa h).2 (f p))
theorem Uc(h:ML [k] [v] mk mv e=true)(f:∀ks vs p,mk ks=true->mv vs=true->m (.Dict ks vs p)):m e:=
 G6 h λks vs p h=>f ks vs p (Aa h).1 (Aa h).2
noncomputable def Gy(k:Nat)(sc csc:Scope)(nm:List Str)(it:EB)(x:Scope->List Str->EB)(c:Scope->List Str->List Expr->Bool)(elt iter:Expr)(ifs:List Expr)(ia:Int)(ts:List Str):Bool:=
 (ia==0&&k==ts.length)&&(GW iter&&it iter&&Ee sc csc nm ts&&x csc (C6 nm ts++ts) elt&&c csc (C6 nm ts++ts) ifs)
noncomputable def N5(top tup:Bool)(k:Nat)(sc:Scope)(nm:List Str)(it:EB)(x:Scope->List Str->EB)(c:Scope->List Str->List Expr->Bool)(e:Expr):Bool:=top&&(Jj e λelt gs csc _=>FR gs λg=>
 match tup with
 |false=>GU g.target λt _=>Gy k sc csc nm it x c elt g.iter g.ifs g.is_async [t]
 |true=>FK g.target λes _ _=>Fd es (es.map Ny)&&Gy k sc csc nm it x c elt g.iter g.ifs g.is_async (es.map Ny))
structure QS(k:Nat)(sc csc:Scope)(nm ts:List Str)(it:EB)(x:Scope->List Str->EB)(c:Scope->List Str->List Expr->Bool)(elt iter:Expr)(ifs:List Expr):Prop where
 len:k=ts.length
 set:GW iter=true
 it:it iter=true
 sc:Ee sc csc nm ts=true
 x:x csc (C6 nm ts++ts) elt=true
 c:c csc (C6 nm ts++ts) ifs=true
theorem PC{tup:Bool}{k:Nat}{it:EB}{x}{c}{csc}{elt tg iter}{ifs}{ia}{p}{ts:List Str}
  (f:∀elt tg iter ifs csc ts p,DZ tg tup ts->QS k sc csc nm ts it x c elt iter ifs->m (.ListComp elt [⟨tg,iter,ifs,0⟩] csc p))(ht:DZ tg tup ts)(h:Gy k sc csc nm it x c elt iter ifs ia ts=true):m (.ListComp elt [⟨tg,iter,ifs,ia⟩] csc p):=
 have h5:=Aa h;have h0:=Aa h5.1;have h4:=Aa h5.2;have h3:=Aa h4.1;have h2:=Aa h3.1;have h1:=Aa h2.1
 eq_of_beq h0.1▸f elt tg iter ifs csc ts p ht ⟨eq_of_beq h0.2,h1.1,h1.2,h2.2,h3.2,h4.2⟩
theorem OU{top tup:Bool}{k:Nat}{it:EB}{x}{c}(h:N5 top tup k sc nm it x c e=true)
  (f:∀elt tg iter ifs csc ts p,DZ tg tup ts->QS k sc csc nm ts it x c elt iter ifs->m (.ListComp elt [⟨tg,iter,ifs,0⟩] csc p)):m e:=by
 refine VQ (Aa h).2 λelt gs csc p h=>Ge (m:=λgs=>m (.ListComp elt gs csc p)) h λG h=>?_;cases G with
 |mk tg iter ifs ia=>
 cases tup with
 |false=>exact Fa (m:=λtg=>m (.ListComp elt [⟨tg,iter,ifs,ia⟩] csc p)) h λ_ _ h=>PC f .name h
 |true=>exact J1 (m:=λtg=>m (.ListComp elt [⟨tg,iter,ifs,ia⟩] csc p)) h λ_ _ _ h=>PC f (.tup (Aa h).1) (Aa h).2
end
mutual
noncomputable def By(P:Pg)(top:Bool)(sc:Scope)(nm:List Str):X->Expr->Bool
 | .lit v,e=>Ja v e
 | .var i,e=>Jf sc nm i e
 | .glob n,e=>Cb sc n e
 | .bin op a b,e=>IY op (By P top sc nm a) (By P top sc nm b) e
 | .neg a,e=>Jb (By P top sc nm a) e
 | .not a,e=>Jc (By P top sc nm a) e
 | .ao isAnd xs,e=>Rm isAnd (Cg P top sc nm xs) e
 | .cmp op a b,e=>IZ op (By P top sc nm a) (By P top sc nm b) e
 | .cmp2 op1 op2 a b d,e=>N6 op1 op2 (By P top sc nm a) (By P top sc nm b) (By P top sc nm d) e
 | .sub a i,e=>Jd (By P top sc nm a) (By P top sc nm i) e
 | .slice a lo hi st,e=>QH (By P top sc nm a) (Kl P top sc nm lo) (Kl P top sc nm hi) (Kl P top sc nm st) e
 | .attr a n,e=>N7 (By P top sc nm a) n e
 | .call f xs,e=>Hf sc (P.gfns.contains f) f (Cg P top sc nm xs) e
 | .new cl xs,e=>Hf sc (P.classes.contains cl) cl (Cg P top sc nm xs) e
 | .meth a m xs,e=>MK m (By P top sc nm a) (Cg P top sc nm xs) e
 | .bm a m xs,e=>MK m.str (By P top sc nm a) (Cg P top sc nm xs) e
 | .prim f xs,e=>Hf sc (P.prims.contains f.str) f.str (Cg P top sc nm xs) e
 | .isinst a ty,e=>I_ P sc (By P top sc nm a) ty e
 | .list xs,e=>N4 (Cg P top sc nm xs) e
 | .tuple xs,e=>Je (Cg P top sc nm xs) e
 | .dict ks vs,e=>ML ks vs (Jg P top sc nm ks) (Cg P top sc nm vs) e
 | .comp x k tup it c,e=>N5 top tup k sc nm (By P top sc nm it) (λcsc nm'=>By P false csc nm' x) (λcsc nm'=>Rn P csc nm' c) e
noncomputable def Cg(P:Pg)(top:Bool)(sc:Scope)(nm:List Str):List X->List Expr->Bool
 |[],es=>es.isEmpty
 |x::r,es=>Ey es λe q=>By P top sc nm x e&&CL e&&Cg P top sc nm r q
noncomputable def Kl(P:Pg)(top:Bool)(sc:Scope)(nm:List Str):Option X->Option Expr->Bool
 |none,e=>e.isNone
 |some x,e=>GR e λe=>By P top sc nm x e
noncomputable def Jg(P:Pg)(top:Bool)(sc:Scope)(nm:List Str):List X->List (Option Expr)->Bool
 |[],es=>es.isEmpty
 |x::r,es=>Ey es λo q=>(GR o λe=>By P top sc nm x e)&&Jg P top sc nm r q
noncomputable def Rn(P:Pg)(sc:Scope)(nm:List Str):Option X->List Expr->Bool
 |none,es=>es.isEmpty
 |some x,es=>FR es λe=>By P false sc nm x e
end
noncomputable def EI(sc:Scope)(id:Str):Bool:=match sc.names.lookup id with
 |some .local=>true
 |some .cell=>true
 |_=>false
theorem OV{sc:Scope}{id}(h:GY sc id=true):sc.names.lookup id=some .local\/sc.names.lookup id=some .cell\/sc.names.lookup id=some .free:=by
 unfold GY at h;revert h;cases sc.names.lookup id with
 |none=>exact λh=>Bool.noConfusion h
 |some k=>cases k<;>first|exact λ_=>.inl rfl|exact λ_=>.inr (.inl rfl)|exact λ_=>.inr (.inr rfl)|exact λh=>Bool.noConfusion h
theorem Ov{sc:Scope}{id}(h:EI sc id=true):sc.names.lookup id=some .local\/sc.names.lookup id=some .cell:=by
 unfold EI at h;revert h;cases sc.names.lookup id with
 |none=>exact λh=>Bool.noConfusion h
 |some k=>cases k<;>first|exact λ_=>.inl rfl|exact λ_=>.inr rfl|exact λh=>Bool.noConfusion h
inductive FX:Option AV->Option Value->Prop
 |none {x}:FX Option.none x
 |some {a v}:VR a v->FX (Option.some a) (Option.some v)
structure Frm(R:RR)(env:Env)(sc:Scope)(nm:List Str)(V:VV):Prop where
 kind:env.scope.kind = .function
 glob:env.globals=mainGlobals
 blt:env.builtins=builtinsNs
 sco:∀id,M3 sc id=true->env.kindOf id=some .globalImplicit
 kok:∀id,GY sc id=true->env.kindOf id=some .local\/env.kindOf id=some .cell\/env.kindOf id=some .free
 lok:∀id,EI sc id=true->env.kindOf id=some .local\/env.kindOf id=some .cell
 lco:∀id,sc.names.lookup id=some .local->env.kindOf id=some .local
 cco:∀id,sc.names.lookup id=some .cell->env.kindOf id=some .cell
 len:V.length=nm.length
 inj:∀n n' a,env.cells.lookup n=some a->env.cells.lookup n'=some a->n=n'
 ns:∃m,R env.locals=some (.ns m)/\∀(i:Nat) n,nm[i]? =some n->env.kindOf n=some .local->∃v,V[i]? =some v/\FX v (m n)
 cell:∀(i:Nat) n,nm[i]? =some n->(env.kindOf n=some .cell\/env.kindOf n=some .free)->∃a x v,env.cells.lookup n=some a/\R a=some (.cell x)/\V[i]? =some v/\FX v x
noncomputable def Ry:List Value:=[.type "ValueError",.type "Exception",.type "BaseException",.type "object"]
noncomputable def typeNames:List String:=["int","bool","str","list"]
structure AZ(c:Cx):Prop where
 fn:∀f,c.P.gfns.contains f=true->nsIn c.K mainGlobals (ofString f)=some (some (.ref (c.fa f)))/\keepIn c.K (.ref (c.fa f))=true
 cls:∀cl,c.P.classes.contains cl=true->nsIn c.K mainGlobals (ofString cl)=some (some (.ref (c.ca cl)))/\keepIn c.K (.ref (c.ca cl))=true/\makesIn c.K (c.ca cl)=true/\
  findIn c.K (.ref (c.ca cl)) "__init__"=some (some (.ref (c.fa (cl++".__init__"))))/\isFn c.K (.ref (c.fa (cl++".__init__")))=true
 meth:∀cl m,c.P.meths.contains (cl,m)=true->plainGet c.K (c.ca cl) (ofString m)=true/\findIn c.K (.ref (c.ca cl)) (ofString m)=some (some (.ref (c.fa (cl++"."++m))))/\isFn c.K (.ref (c.fa (cl++"."++m)))=true/\
  keepIn c.K (.ref (c.fa (cl++"."++m)))=true
 attr:∀cl n,c.P.attrs.contains (cl,n)=true->plainGet c.K (c.ca cl) (ofString n)=true/\hasDictIn c.K (c.ca cl)=true/\findIn c.K (.ref (c.ca cl)) (ofString n)=some none/\
  findIn c.K (.ref (c.ca cl)) "__setattr__"=some (some (.builtin "object.__setattr__"))/\plainOver c.K (c.ca cl)=true/\takerIn c.K (c.ca cl) (ofString n)=some none
 prim:∀f,c.P.prims.contains f=true->nsIn c.K mainGlobals (ofString f)=some none/\(ofString f==ofString "__name__")=false/\bootBuiltins (ofString f)=some (J8 f)
 excR:∀cl,(c.P.excs.lookup cl).isSome=true->nsIn c.K mainGlobals (ofString cl)=some (some (.ref (c.ca cl)))/\excIn c.K (c.ca cl) Ry "ValueError.__new__"=true/\instIn c.K (.ref (c.ca cl)) (.type "tuple")=some false/\subIn c.K (.ref (c.ca cl)) (.type "BaseException")=some true/\(clsIn c.K (c.ca cl)).isSome=true/\
  typeIn c.K (.ref (c.ca cl))=some (.type "type")/\instIn c.K (.ref (c.ca cl)) (.type "type")=some true/\typeNames.contains cl=false
 excC:∀cl d,(c.P.excs.lookup cl).isSome=true->(c.P.excs.lookup d).isSome=true->subIn c.K (.ref (c.ca cl)) (.ref (c.ca d))=some (Gl c.P cl d)
 const:∀n v,c.P.consts.lookup n=some v->∃x,nsIn c.K mainGlobals (ofString n)=some (some x)/\VR v x
noncomputable def QZ(e:Stmt)(k:Option Expr->Pos->Bool):Bool:=if h:e.ctorIdx=3 then Stmt.Return.elim (motive_2:=λ_=>Bool) e h k else false
theorem Up{m:Stmt->Prop}(h:QZ e k=true)(f:∀v p,k v p=true->m (.Return v p)):m e:=
 (dn h).elim λq z=>Stmt.Return.elim (motive_2:=λe=>∀q,Stmt.Return.elim (motive_2:=λ_=>Bool) e q k=true->m e) e q (λv p _ z=>f v p z) q z
noncomputable def Re(e:Stmt)(k:List Expr->Expr->Pos->Bool):Bool:=if h:e.ctorIdx=5 then Stmt.Assign.elim (motive_2:=λ_=>Bool) e h k else false
theorem UC{m:Stmt->Prop}(h:Re e k=true)(f:∀ts v p,k ts v p=true->m (.Assign ts v p)):m e:=
 (dn h).elim λq z=>Stmt.Assign.elim (motive_2:=λe=>∀q,Stmt.Assign.elim (motive_2:=λ_=>Bool) e q k=true->m e) e q (λts v p _ z=>f ts v p z) q z
noncomputable def MI(e:Stmt)(k:Expr->Expr->List Stmt->List Stmt->Pos->Bool):Bool:=if h:e.ctorIdx=9 then Stmt.For.elim (motive_2:=λ_=>Bool) e h k else false
theorem OO{m:Stmt->Prop}(h:MI e k=true)(f:∀t i b o p,k t i b o p=true->m (.For t i b o p)):m e:=
 (dn h).elim λq z=>Stmt.For.elim (motive_2:=λe=>∀q,Stmt.For.elim (motive_2:=λ_=>Bool) e q k=true->m e) e q (λt i b o p _ z=>f t i b o p z) q z
noncomputable def PS(e:Stmt)(k:Expr->List Stmt->List Stmt->Pos->Bool):Bool:=if h:e.ctorIdx=11 then Stmt.While.elim (motive_2:=λ_=>Bool) e h k else false
theorem Tp{m:Stmt->Prop}(h:PS e k=true)(f:∀t b o p,k t b o p=true->m (.While t b o p)):m e:=
 (dn h).elim λq z=>Stmt.While.elim (motive_2:=λe=>∀q,Stmt.While.elim (motive_2:=λ_=>Bool) e q k=true->m e) e q (λt b o p _ z=>f t b o p z) q z
noncomputable def Ra(e:Stmt)(k:Expr->List Stmt->List Stmt->Pos->Bool):Bool:=if h:e.ctorIdx=12 then Stmt.If.elim (motive_2:=λ_=>Bool) e h k else false
theorem UA{m:Stmt->Prop}(h:Ra e k=true)(f:∀t b o p,k t b o p=true->m (.If t b o p)):m e:=
 (dn h).elim λq z=>Stmt.If.elim (motive_2:=λe=>∀q,Stmt.If.elim (motive_2:=λ_=>Bool) e q k=true->m e) e q (λt b o p _ z=>f t b o p z) q z
noncomputable def onRaise(e:Stmt)(k:Option Expr->Option Expr->Pos->Bool):Bool:=if h:e.ctorIdx=16 then Stmt.Raise.elim (motive_2:=λ_=>Bool) e h k else false
theorem Ts{m:Stmt->Prop}(h:onRaise e k=true)(f:∀x c p,k x c p=true->m (.Raise x c p)):m e:=
 (dn h).elim λq z=>Stmt.Raise.elim (motive_2:=λe=>∀q,Stmt.Raise.elim (motive_2:=λ_=>Bool) e q k=true->m e) e q (λx c p _ z=>f x c p z) q z
noncomputable def QY(e:Stmt)(k:List Stmt->List ExceptHandler->List Stmt->List Stmt->Pos->Bool):Bool:=if h:e.ctorIdx=17 then Stmt.Try.elim (motive_2:=λ_=>Bool) e h k else false
theorem Uo{m:Stmt->Prop}(h:QY e k=true)(f:∀b hs o fi p,k b hs o fi p=true->m (.Try b hs o fi p)):m e:=
 (dn h).elim λq z=>Stmt.Try.elim (motive_2:=λe=>∀q,Stmt.Try.elim (motive_2:=λ_=>Bool) e q k=true->m e) e q (λb hs o fi p _ z=>f b hs o fi p z) q z
noncomputable def Qw(e:Stmt)(k:Expr->Pos->Bool):Bool:=if h:e.ctorIdx=24 then Stmt.Expr.elim (motive_2:=λ_=>Bool) e h k else false
theorem TW{m:Stmt->Prop}(h:Qw e k=true)(f:∀v p,k v p=true->m (.Expr v p)):m e:=
 (dn h).elim λq z=>Stmt.Expr.elim (motive_2:=λe=>∀q,Stmt.Expr.elim (motive_2:=λ_=>Bool) e q k=true->m e) e q (λv p _ z=>f v p z) q z
noncomputable def Qt(e:Stmt)(k:Pos->Bool):Bool:=if h:e.ctorIdx=25 then Stmt.Pass.elim (motive_2:=λ_=>Bool) e h k else false
theorem TS{m:Stmt->Prop}(h:Qt e k=true)(f:∀p,k p=true->m (.Pass p)):m e:=
 (dn h).elim λq z=>Stmt.Pass.elim (motive_2:=λe=>∀q,Stmt.Pass.elim (motive_2:=λ_=>Bool) e q k=true->m e) e q (λp _ z=>f p z) q z
noncomputable def Gf(e:Expr):Bool:=e.ctorIdx != 8&&e.ctorIdx != 9&&e.ctorIdx != 10&&e.ctorIdx != 7
noncomputable def G'(sc:Scope)(nm:List Str)(i:Nat)(e:Expr):Bool:=GU e λid _=>nm[i]?==some id&&EI sc id
theorem Ix{sc:Scope}{nm:List Str}{i:Nat}{m:Expr->Prop}{e:Expr}(h:G' sc nm i e=true)(f:∀id p,nm[i]? =some id->EI sc id=true->m (.Name id p)):m e:=
 Fa h λid p h=>f id p (eq_of_beq (Aa h).1) (Aa h).2
noncomputable def En(sc:Scope)(nm:List Str):List Nat->List Expr->Bool
 |[],es=>es.isEmpty
 |i::is,es=>Ey es λe r=>G' sc nm i e&&En sc nm is r
noncomputable def Fo(sc:Scope)(nm:List Str)(is:List Nat)(e:Expr):Bool:=FK e λes _ _=>En sc nm is es
noncomputable def Fy(sc:Scope)(nm:List Str)(t:Tg)(e:Expr):Bool:=match t with
 | .var i=>G' sc nm i e
 | .tup is=>Fo sc nm is e
noncomputable def M7(e:Expr):Bool:=e.ctorIdx != 25
noncomputable def Rq(P:Pg)(sc:Scope)(nm:List Str)(t:T)(e:Expr):Bool:=match t with
 | .var i=>G' sc nm i e
 | .sub a i=>Kf e λv sl _=>Ir sl&&By P true sc nm a v&&By P true sc nm i sl
 | .attr a n=>GV e λv at' _=>at'==ofString n&&By P true sc nm a v
 | .tup is=>Fo sc nm is e
 | .rtup is=>Fo sc nm is e
noncomputable def QJ(e:Expr):Bool:=match e with
 | .Starred ..=>true
 |_=>false
noncomputable def DQ(sc:Scope)(l:Nat)(e:Expr):Option Str:=match e with
 | .Name id pos=>if sc.names.lookup id==some .local&&pos.line==l then some id else none
 |_=>none
noncomputable def Bz(sc:Scope)(es:List Expr):List Str:=es.filterMap (DQ sc ((es.head?.map (·.pos.line)).getD 0))
noncomputable def Fx(sc:Scope)(es vs:List Expr):Bool:=(es.length==2||es.length==3)&&vs.length==es.length&&!vs.any QJ&&(Bz sc es).length==es.length&&(Bz sc es).eraseDups.length==(Bz sc es).length&&!vs.all (foldedForSure 8)&&!vs.all (constantsAlone 8)
noncomputable def QQ(sc:Scope)(e:Expr):Bool:=match e with
 | .Name id _=>sc.names.lookup id==some .cell
 |_=>false
noncomputable def F4(sc:Scope)(t:T)(tg v:Expr):Bool:=match t with
 | .tup _=>M7 v||FK tg λes _ _=>es.any (QQ sc)
 | .rtup _=>FK tg λes _ _=>FK v λvs _ _=>Fx sc es vs
 |_=>true
noncomputable def N2(msg:Str)(es:List Expr):Bool:=FR es λe=>Ja (.str msg) e
noncomputable def Ji(sc:Scope)(nm:List Str)(nmi:Option Nat)(name:Option Str):Bool:=match nmi with
 |none=>name.isNone
 |some _=>false
mutual
noncomputable def Rp(P:Pg)(sc:Scope)(nm:List Str):S->Stmt->Bool
 | .assign t e,st=>Re st λts v _=>FR ts λtg=>(Gf v||(IW v&&M4 e))&&F4 sc t tg v&&Rq P sc nm t tg&&By P true sc nm e v
 | .expr e,st=>Qw st λv _=>Gf v&&By P true sc nm e v
 | .ret e,st=>QZ st λv _=>GR v λv=>By P true sc nm e v
 | .ite c a b,st=>Ra st λt x y _=>By P true sc nm c t&&Cr P sc nm a x&&Cr P sc nm b y
 | .while c b,st=>PS st λt x o _=>o.isEmpty&&(By P true sc nm c t&&Cr P sc nm b x)
 | .for t it b,st=>MI st λtg iter x o _=>o.isEmpty&&(GW iter&&Fy sc nm t tg&&By P true sc nm it iter&&Cr P sc nm b x)
 | .fore i j a bd,st=>MI st λtg iter x o _=>o.isEmpty&&(Fo sc nm [i,j] tg&&Hf sc (P.prims.contains "enumerate") "enumerate" (Cg P true sc nm [a]) iter&&Cr P sc nm bd x)
 | .raise cl msg,st=>onRaise st λc z _=>z.isNone&&GR c λc=>Hf sc (P.excs.lookup cl).isSome cl (N2 msg) c
 | .try b hs,st=>QY st λx hs' o z _=>(o.isEmpty&&z.isEmpty)&&(Cr P sc nm b x&&Ey hs' λh₀ r=>Gz P sc nm hs (h₀::r))
 | .pass,st=>Qt st λ_=>true
noncomputable def Cr(P:Pg)(sc:Scope)(nm:List Str):List S->List Stmt->Bool
 |[],es=>es.isEmpty
 |x::r,es=>Ey es λe q=>Rp P sc nm x e&&Cr P sc nm r q
noncomputable def Gz(P:Pg)(sc:Scope)(nm:List Str):List Hd->List ExceptHandler->Bool
 |[],es=>es.isEmpty
 |h::r,es=>Ey es λe q=>Ro P sc nm h e&&Gz P sc nm r q
noncomputable def Ro(P:Pg)(sc:Scope)(nm:List Str):Hd->ExceptHandler->Bool
 | .mk cl nmi b,e=>match e with
  | .ExceptHandler ty name body _=>GR ty λt=>Ey body λx body=>Cb sc cl t&&(P.excs.lookup cl).isSome&&Cr P sc nm b (x::body)&&Ji sc nm nmi name
end
def HX(g:Gx)(A:Around)(R:RR)(V:VV)(s₀:Shared)(x:X)(t:Sem Value):Prop:=
 ∀(H:Ac) (s:Shared) (Q:AV->Ac->Prop) (E:String->Ac->Prop),St g.c R H s.heap->Sm s₀ s->Aj g x V Q E H->wpAny (model g.c.prog g.c.w) A t (TQ g R s₀ Q) (TE g R s₀ E) s
inductive Nt(c:Cx)(R:RR)(s₀:Shared)(Q:AV->Bool->Ac->Prop)(b:Bool)(s':Shared):Prop
 |mk (v:AV) (H':Ac) (S:St c R H' s'.heap) (m:Sm s₀ s') (q:Q v b H') (h:∀P:Bool->Prop,BF v H' P->P b):Nt c R s₀ Q b s'
def TT(g:Gx)(R:RR)(s₀:Shared)(Q:AV->Bool->Ac->Prop)(b:Bool)(s':Shared):Prop:=Nt g.c R s₀ Q b s'
def HT(g:Gx)(A:Around)(R:RR)(V:VV)(s₀:Shared)(x:X)(t:Sem Bool):Prop:=
 ∀(H:Ac) (s:Shared) (Q:AV->Bool->Ac->Prop) (E:String->Ac->Prop),St g.c R H s.heap->Sm s₀ s->Aj g x V (λv H=>BF v H λb=>Q v b H) E H->
  wpAny (model g.c.prog g.c.w) A t (TT g R s₀ Q) (TE g R s₀ E) s
inductive HW(c:Cx)(R:RR)(s₀:Shared)(Q:List AV->Ac->Prop)(vs:List Value)(s':Shared):Prop
 |mk (as:List AV) (H':Ac) (hv:VRs as vs) (S:St c R H' s'.heap) (m:Sm s₀ s') (q:Q as H'):HW c R s₀ Q vs s'
def Nr(g:Gx)(R:RR)(s₀:Shared)(Q:List AV->Ac->Prop)(vs:List Value)(s':Shared):Prop:=HW g.c R s₀ Q vs s'
def R7(g:Gx)(A:Around)(R:RR)(V:VV)(s₀:Shared)(xs:List X)(t:Sem (List Value)):Prop:=
 ∀(H:Ac) (s:Shared) (Q:List AV->Ac->Prop) (E:String->Ac->Prop),St g.c R H s.heap->Sm s₀ s->Ay g xs V Q E H->wpAny (model g.c.prog g.c.w) A t (Nr g R s₀ Q) (TE g R s₀ E) s
theorem Tu(h:BF v H P):∃b,P b/\(∀P':Bool->Prop,BF v H P'->P' b)/\∀P':Bool->Prop,P' b->BF v H P':=by
 cases v with
 |none=>exact⟨_,h,λ_ x=>x,λ_ x=>x⟩
 |bool b=>exact⟨_,h,λ_ x=>x,λ_ x=>x⟩
 |int i=>exact⟨_,h,λ_ x=>x,λ_ x=>x⟩
 |str s=>exact⟨_,h.2,λ_ x=>x.2,λ_ x=>⟨h.1,x⟩⟩
 |ref a=>
  dsimp only[QW]at h⊢;generalize H a=o at h⊢;cases o with
  |none=>exact h.elim
  |some o=>cases o with
   |list xs=>exact⟨_,h.2,λP' x=>x.2,λP' x=>⟨h.1,x⟩⟩
   |tuple xs=>exact⟨_,h.2,λP' x=>x.2,λP' x=>⟨h.1,x⟩⟩
   |_=>exact h.elim
section
variable{g:Gx}{A:Around}{R:RR}{V:VV}{s₀:Shared}{env:Env}{mg mb:Str->Option Value}{e₀:Env}{l₀:List Env}
theorem J5(hv:VR a v)(S:St g.c R H s.heap)(m:Sm s₀ s)(q:BF a H (λb=>Q a b H)) :
  wpAny (model g.c.prog g.c.w) A (truthy v) (TT g R s₀ Q) E s:=by
 refine e13 (Tu q) λb qb hb hb'=>wpAny_mono (JH (A:=A) (E:=E) (Qb:=λb' H'=>H'=H/\b'=b) hv S m (hb' _ ⟨rfl,rfl⟩)) (λb' s' h=>?_) λ_ _ x=>x;obtain⟨H',S',m',e1,e2⟩:=h;subst e1 e2;exact⟨a,H',S',m',qb,hb⟩
theorem HT.plain(h:HX g A R V s₀ x whole)(he:isTrue e env whole=(do let v <-whole;standAt e.pos;holding [v] (truthy v))) :
  HT g A R V s₀ x (isTrue e env whole):=λH s Q E S m q=>by
 refine isTrue_plain (wpAny_mono (h H s _ E S m q) (λv s' z=>?_) λ_ _ z=>z) he;obtain⟨a,H',hv,S',m',q'⟩:=z;exact J5 hv S' m' q'
theorem RU(hc:NB v cc=true):HX g A R V s₀ (.lit v) (eval (.Constant cc k p) env):=λH s Q E S m q=>by
 cases v with
 |none=>exact rl (eq_of_beq hc) (wpAny_Constant_none (TQ.pure .none S m q))
 |bool b=>exact rl (eq_of_beq hc) (wpAny_Constant_bool (TQ.pure (.bool _) S m q))
 |int i=>exact rl (eq_of_beq hc) (wpAny_Constant_int (TQ.toks (.int _ _) S m q))
 |str x=>exact rl (eq_of_beq (Aa hc).1) (wpAny_Constant_str (TQ.toks (.str _ _ (Aa hc).2) S m q))
 |ref a=>exact Bool.noConfusion hc
theorem RO{sc:Scope}{nm:List Str}{i:Nat}{id}{p}(fr:Frm R env sc nm V)(h1:nm[i]? =some id)(h2:GY sc id=true)(h3:G8 id=true) :
  HX g A R V s₀ (.var i) (eval (.Name id p) env):=λH s Q E S m q=>by
 unfold G8 at h3;simp only[Bool.and_eq_true,Bool.not_eq_true']at h3;dsimp only[Aq,Ad,Av,Bo,AF,Am,Ar,Bd,Au,Bf,A_,A6,A1,Ax,Ba,AB,AN,BP,Bg,BU,BO,BE,Bl]at q;rcases fr.kok id h2 with k|k|k
 ·refine e12 fr.ns λmm r1 r2=>e12 (r2 i id h1 k) λv e ov=>?_;rw[e]at q;generalize hw:mm id=w at ov;cases ov with
  |none=>exact q.elim
  |some hv=>exact wpAny_Name (wpAny_loadName_local fr.kind k (S.res _ _ r1).2 hw (TQ.pure hv S m q)) h3.1
 ·refine e34 (fr.cell i id h1 (.inl k)) λa x v e1 e2 e3 ov=>?_;rw[e3]at q;cases ov with
  |none=>exact q.elim
  |some hv=>exact wpAny_Name (wpAny_loadName_cell fr.kind k e1 (S.res _ _ e2).2 (TQ.pure hv S m q)) h3.1
 ·refine e34 (fr.cell i id h1 (.inr k)) λa x v e1 e2 e3 ov=>?_;rw[e3]at q;cases ov with
  |none=>exact q.elim
  |some hv=>exact wpAny_Name (wpAny_loadName_free fr.kind k e1 (S.res _ _ e2).2 (TQ.pure hv S m q) h3.2) h3.1
theorem I9(C:g.c.Ok mg mb)(fr:Frm R env sc nm V)(S:St g.c R H s.heap)
  (hn:Cb sc n e=true)(hk:nsIn g.c.K mainGlobals (ofString n)=some (some v))(q:Q v s):wpAny (model g.c.prog g.c.w) A (eval e env) Q E s:=by
 refine Fa (m:=λe=>wpAny (model g.c.prog g.c.w) A (eval e env) Q E s) hn λid p hn=>?_;have h2:=Aa hn;have h1:=Aa h2.1;exact Name_function_global fr.kind (fr.sco _ h1.2) (loadGlobal_global (mg:=mg) (rl fr.glob (C.g.keeps S.stays)) (eq_of_beq h1.1▸mg_of C.kin C.g hk) q) (DF (Aa h2.2).1)
theorem JZ(C:g.c.Ok mg mb)(fr:Frm R env sc nm V)(S:St g.c R H s.heap)
  (hn:Cb sc n e=true)(hk:nsIn g.c.K mainGlobals (ofString n)=some none)(hne:(ofString n==ofString "__name__")=false)(hb:bootBuiltins (ofString n)=some v)(q:Q v s) :
  wpAny (model g.c.prog g.c.w) A (eval e env) Q E s:=by
 refine Fa (m:=λe=>wpAny (model g.c.prog g.c.w) A (eval e env) Q E s) hn λid p hn=>?_;have h2:=Aa hn;have h1:=Aa h2.1;have he:=eq_of_beq h1.1;refine Name_function_global fr.kind (fr.sco _ h1.2) (loadGlobal_builtin (mg:=mg) (mb:=mb) ?_ (he▸mg_none_of C.kin C.g hk) ?_ (he▸(C.builtins _ (ne_of_beq_false hne)).trans hb) q) (DF (Aa h2.2).1)
 ·exact rl fr.glob (C.g.keeps S.stays)
 ·exact rl fr.blt (C.b.keeps S.stays)
theorem WY(C:g.c.Ok mg mb)(PO:AZ g.c)(fr:Frm R env sc nm V)(hn:Cb sc n e=true):HX g A R V s₀ (.glob n) (eval e env):=λH s Q E S m q=>by
 dsimp only[Aq,Ad,Av,Bo,AF,Am,Ar,Bd,Au,Bf,A_,A6,A1,Ax,Ba,AB,AN,BP,Bg,BU,BO,BE,Bl]at q;obtain⟨oo,hv⟩:∃oo,g.c.P.consts.lookup n=oo:=⟨_,rfl⟩
 rw[hv]at q;cases oo with
 |none=>exact q.elim
 |some v=>
  exact e12 (PO.const n v hv) λx h1 h2=>I9 C fr S hn h1 (TQ.pure h2 S m q)
theorem RA(C:g.c.Ok mg mb)(ev:Ev g A R e₀ l₀)(ha:HX g A R V s₀ a (eval l env))(hb:HX g A R V s₀ b (eval r env)):HX g A R V s₀ (.bin op a b) (eval (.BinOp l op r p) env):=
 λH s Q E S m q=>by
 dsimp only[Aq,Ad,Av,Bo,AF,Am,Ar,Bd,Au,Bf,A_,A6,A1,Ax,Ba,AB,AN,BP,Bg,BU,BO,BE,Bl]at q;refine wpAny_BinOp (wpAny_mono (ha H s _ E S m q) (λu s₁ z=>?_) λ_ _ z=>z);obtain⟨au,H₁,hu,S₁,m₁,q₁⟩:=z;refine wpAny_mono (hb H₁ s₁ _ E S₁ m₁ q₁) (λv s₂ z=>?_) λ_ _ z=>z;obtain⟨av,H₂,hv,S₂,m₂,q₂⟩:=z;exact SC C ev hu hv S₂ m₂ q₂
theorem RT(ha:HX g A R V s₀ a (eval l env)):HX g A R V s₀ (.neg a) (eval (.UnaryOp .USub l p) env):=λH s Q E S m q=>by
 dsimp only[Aq,Ad,Av,Bo,AF,Am,Ar,Bd,Au,Bf,A_,A6,A1,Ax,Ba,AB,AN,BP,Bg,BU,BO,BE,Bl]at q;refine wpAny_UnaryOp (wpAny_mono (ha H s _ E S m q) (λu s₁ z=>?_) λ_ _ z=>z);obtain⟨au,H₁,hu,S₁,m₁,q₁⟩:=z;cases hu with
 |int i t=>exact neg_int (TQ.toks (.int _ _) S₁ m₁ q₁)
 |_=>exact q₁.elim
theorem RQ(ha:HX g A R V s₀ a (eval l env)):HX g A R V s₀ (.not a) (eval (.UnaryOp .Not l p) env):=λH s Q E S m q=>by
 dsimp only[Aq,Ad,Av,Bo,AF,Am,Ar,Bd,Au,Bf,A_,A6,A1,Ax,Ba,AB,AN,BP,Bg,BU,BO,BE,Bl]at q;refine wpAny_UnaryOp (wpAny_mono (ha H s _ E S m q) (λu s₁ z=>?_) λ_ _ z=>z);obtain⟨au,H₁,hu,S₁,m₁,q₁⟩:=z;refine not_of (wpAny_mono (JH hu S₁ m₁ (Qb:=λb H=>Q (.bool (!b)) H) q₁) (λb s₂ z=>?_) λ_ _ z=>z);obtain⟨H₂,S₂,m₂,q₂⟩:=z;exact TQ.pure (.bool _) S₂ m₂ q₂
theorem RB(ha:HT g A R V s₀ a (isTrue l env (eval l env))):HT g A R V s₀ (.not a) (isTrue (.UnaryOp .Not l p) env whole):=λH s Q E S m q=>by
 dsimp only[Aq,Ad,Av,Bo,AF,Am,Ar,Bd,Au,Bf,A_,A6,A1,Ax,Ba,AB,AN,BP,Bg,BU,BO,BE,Bl]at q;refine isTrue_not (wpAny_mono (ha H s (λ_ b H=>Q (.bool (!b)) (!b) H) E S m q) (λb s₁ z=>?_) λ_ _ z=>z);obtain⟨v,H₁,S₁,m₁,q₁,_⟩:=z;exact⟨.bool (!b),H₁,S₁,m₁,q₁,λP z=>z⟩
theorem R9(C:g.c.Ok mg mb)(ev:Ev g A R e₀ l₀)(hm:behindInMarks op r=false)(ha:HX g A R V s₀ a (eval l env))(hb:HX g A R V s₀ b (eval r env)) :
  HX g A R V s₀ (.cmp op a b) (eval (.Compare l [op] [r] p) env):=λH s Q E S m q=>by
 dsimp only[Aq,Ad,Av,Bo,AF,Am,Ar,Bd,Au,Bf,A_,A6,A1,Ax,Ba,AB,AN,BP,Bg,BU,BO,BE,Bl]at q;refine wpAny_Compare1 (wpAny_mono (ha H s _ E S m q) (λu s₁ z=>?_) λ_ _ z=>z) hm;obtain⟨au,H₁,hu,S₁,m₁,q₁⟩:=z;refine wpAny_mono (hb H₁ s₁ _ E S₁ m₁ q₁) (λv s₂ z=>?_) λ_ _ z=>z;obtain⟨av,H₂,hv,S₂,m₂,q₂⟩:=z;exact Ha C ev hu hv S₂ m₂ q₂
theorem RE(C:g.c.Ok mg mb)(ev:Ev g A R e₀ l₀)(hm:behindInMarks op r=false)(ha:HX g A R V s₀ a (eval l env))(hb:HX g A R V s₀ b (eval r env)) :
  HT g A R V s₀ (.cmp op a b) (isTrue (.Compare l [op] [r] p) env whole):=λH s Q E S m q=>by
 dsimp only[Aq,Ad,Av,Bo,AF,Am,Ar,Bd,Au,Bf,A_,A6,A1,Ax,Ba,AB,AN,BP,Bg,BU,BO,BE,Bl]at q;refine wpAny_isTrue_Compare1 (wpAny_mono (ha H s _ E S m q) (λu s₁ z=>?_) λ_ _ z=>z) hm;obtain⟨au,H₁,hu,S₁,m₁,q₁⟩:=z;refine wpAny_mono (hb H₁ s₁ _ E S₁ m₁ q₁) (λv s₂ z=>?_) λ_ _ z=>z;obtain⟨av,H₂,hv,S₂,m₂,q₂⟩:=z;refine wpAny_mono (Ha C ev hu hv S₂ m₂ q₂) (λc s₃ z=>?_) λ_ _ z=>z;obtain⟨ac,H₃,hc,S3,m₃,q₃⟩:=z;exact J5 hc S3 m₃ q₃
theorem Sk{Q}
  (h:wpAny M A t₁ (λb s₁=>wpAny M A (compareOp op1 a b) (λc s₂=>wpAny M A (truthy c) (λt s₃=>if t then wpAny M A t₂ (λd s₄=>wpAny M A (compareOp op2 b d) Q E s₄) E s₃ else Q c s₃) E s₂) E s₁) E s) :
  wpAny M A (compareChain pos a [op1,op2] [t₁,t₂]) Q E s:=by
 show wpAny M A (do
  let rv <-holding [a] t₁
  standAt pos
  let c <-holding [a,rv] (compareOp op1 a rv)
  release [a,rv] [c]
  if <-holding [c,rv] (truthy c) then compareChain pos rv [op2] [t₂] else pure c) Q E s
 refine wpAny_bind (wpAny_holding (wpAny_mono h (λb s₁ z=>wpAny_bind (wpAny_standAt (wpAny_bind (wpAny_holding (wpAny_mono z (λc s₂ z=>wpAny_bind (wpAny_release (wpAny_bind (wpAny_holding (wpAny_mono z (λt s₃ z=>?_) λ_ _ z=>z))))) λ_ _ z=>z))))) λ_ _ z=>z));cases t with
 |false=>exact wpAny_pure z
 |true=>
  show wpAny M A (do
   let rv <-holding [b] t₂
   standAt pos
   operate [b,rv] (compareOp op2 b rv)) Q E s₃
  exact wpAny_bind (wpAny_holding (wpAny_mono z (λd s₄ z=>wpAny_bind (wpAny_standAt (wpAny_operating z))) λ_ _ z=>z))
theorem Sx{Q}
  (h:wpAny M A t₁ (λb s₁=>wpAny M A (compareOp op1 a b) (λc s₂=>wpAny M A (truthy c) (λt s₃=>if t then wpAny M A t₂ (λd s₄=>wpAny M A (compareOp op2 b d) (λc' s5=>wpAny M A (truthy c') Q E s5) E s₄) E s₃ else Q false s₃) E s₂) E s₁) E s) :
  wpAny M A (testChain pos a [op1,op2] [t₁,t₂]) Q E s:=by
 show wpAny M A (do
  let rv <-holding [a] t₁
  standAt pos
  let c <-holding [a,rv] (compareOp op1 a rv)
  release [a,rv] [c]
  if <-holding [c,rv] (truthy c) then testChain pos rv [op2] [t₂] else pure false) Q E s
 refine wpAny_bind (wpAny_holding (wpAny_mono h (λb s₁ z=>wpAny_bind (wpAny_standAt (wpAny_bind (wpAny_holding (wpAny_mono z (λc s₂ z=>wpAny_bind (wpAny_release (wpAny_bind (wpAny_holding (wpAny_mono z (λt s₃ z=>?_) λ_ _ z=>z))))) λ_ _ z=>z))))) λ_ _ z=>z));cases t with
 |false=>exact wpAny_pure z
 |true=>
  show wpAny M A (do
   let rv <-holding [b] t₂
   standAt pos
   let c <-operate [b,rv] (compareOp op2 b rv)
   holding [c] (truthy c)) Q E s₃
  exact wpAny_bind (wpAny_holding (wpAny_mono z (λd s₄ z=>wpAny_bind (wpAny_standAt (wpAny_bind (wpAny_operating (wpAny_mono z (λc' s5 z=>wpAny_holding z) λ_ _ z=>z))))) λ_ _ z=>z))
theorem W_(C:g.c.Ok mg mb)(ev:Ev g A R e₀ l₀)(hm:lastMarks [op1,op2] [r₁,r₂]=false)
  (ha:HX g A R V s₀ a (eval l env))(hb:HX g A R V s₀ b (eval r₁ env))(hd:HX g A R V s₀ d (eval r₂ env)) :
  HX g A R V s₀ (.cmp2 op1 op2 a b d) (eval (.Compare l [op1,op2] [r₁,r₂] p) env):=λH s Q E S m q=>by
 dsimp only[Aq,Ad,Av,Bo,AF,Am,Ar,Bd,Au,Bf,A_,A6,A1,Ax,Ba,AB,AN,BP,Bg,BU,BO,BE,Bl]at q;refine rl (arm_eval_Compare ..) (rl (markedEach_of_false _ _ _ hm ..) (wpAny_bind (wpAny_mono (ha H s _ E S m q) (λu s₁ z=>?_) λ_ _ z=>z)));obtain⟨au,H₁,hu,S₁,m₁,q₁⟩:=z;refine Sk (wpAny_mono (hb H₁ s₁ _ E S₁ m₁ q₁) (λv s₂ z=>?_) λ_ _ z=>z);obtain⟨av,H₂,hv,S₂,m₂,q₂⟩:=z;refine wpAny_mono (Ha C ev hu hv S₂ m₂ q₂) (λc s₃ z=>?_) λ_ _ z=>z;obtain⟨ac,H₃,hc,S3,m₃,q₃⟩:=z;refine wpAny_mono (JH (Qb:=λt H=>if t then Aj g d V (λz H=>AA op2 av z Q H) E H else Q ac H) hc S3 m₃ q₃) (λt s₄ z=>?_) λ_ _ z=>z;obtain⟨H₄,S₄,m₄,q₄⟩:=z;cases t with
 |false=>exact TQ.pure hc S₄ m₄ q₄
 |true=>
  refine wpAny_mono (hd H₄ s₄ _ E S₄ m₄ q₄) (λw s5 z=>?_) λ_ _ z=>z;obtain⟨aw,H₅,hw,S₅,m5,q₅⟩:=z;exact Ha C ev hv hw S₅ m5 q₅
theorem X8(C:g.c.Ok mg mb)(ev:Ev g A R e₀ l₀)(hm:lastMarks [op1,op2] [r₁,r₂]=false)
  (ha:HX g A R V s₀ a (eval l env))(hb:HX g A R V s₀ b (eval r₁ env))(hd:HX g A R V s₀ d (eval r₂ env)) :
  HT g A R V s₀ (.cmp2 op1 op2 a b d) (isTrue (.Compare l [op1,op2] [r₁,r₂] p) env whole):=λH s Q E S m q=>by
 dsimp only[Aq,Ad,Av,Bo,AF,Am,Ar,Bd,Au,Bf,A_,A6,A1,Ax,Ba,AB,AN,BP,Bg,BU,BO,BE,Bl]at q;refine rl (arm_isTrue_Compare ..) (rl (markedEach_of_false _ _ _ hm ..) (wpAny_bind (wpAny_mono (ha H s _ E S m q) (λu s₁ z=>?_) λ_ _ z=>z)));obtain⟨au,H₁,hu,S₁,m₁,q₁⟩:=z;refine Sx (wpAny_mono (hb H₁ s₁ _ E S₁ m₁ q₁) (λv s₂ z=>?_) λ_ _ z=>z);obtain⟨av,H₂,hv,S₂,m₂,q₂⟩:=z;refine wpAny_mono (Ha C ev hu hv S₂ m₂ q₂) (λc s₃ z=>?_) λ_ _ z=>z;obtain⟨ac,H₃,hc,S3,m₃,q₃⟩:=z;refine wpAny_mono (J5 (Q:=λac t H=>if t then Aj g d V (λz H=>AA op2 av z (λv H=>BF v H λb=>Q v b H) H) E H else BF ac H λb=>Q ac b H) hc S3 m₃ q₃) (λt s₄ z=>?_) λ_ _ z=>z;obtain⟨ac',H₄,S₄,m₄,q₄,hb4⟩:=z;cases t with
 |false=>
  rw[if_neg Bool.false_ne_true]at q₄⊢;exact⟨ac',H₄,S₄,m₄,hb4 _ q₄,hb4⟩
 |true=>
  rw[if_pos rfl]at q₄⊢;refine wpAny_mono (hd H₄ s₄ _ E S₄ m₄ q₄) (λw s5 z=>?_) λ_ _ z=>z;obtain⟨aw,H₅,hw,S₅,m5,q₅⟩:=z;refine wpAny_mono (Ha C ev hv hw S₅ m5 q₅) (λc' s6 z=>?_) λ_ _ z=>z;obtain⟨ac'',H₆,hc'',S₆,m6,q₆⟩:=z;exact J5 hc'' S₆ m6 q₆
inductive BC(P:X->Expr->Prop):List X->List Expr->Prop
 |nil:BC P [] []
 |cons {x e xs es}:P x e->BC P xs es->BC P (x::xs) (e::es)
theorem SO(h:BC (λx e=>HX g A R V s₀ x (eval e env)) xs es):HX g A R V s₀ (.ao isAnd xs) (boolOp p (if isAnd then .And else .Or) (evalEach es env)):=by
 induction h with
 |nil=>exact λH s Q E S m q=>q.elim
 | @cons x e _ _ hx r ih=>
 cases r with
 |nil=>
  intro H s Q E S m q;dsimp only[Aq,Ad,Av,Bo,AF,Am,Ar,Bd,Au,Bf,A_,A6,A1,Ax,Ba,AB,AN,BP,Bg,BU,BO,BE,Bl,AT,AQ]at q;show wpAny _ _ (eval e env) _ _ _;exact hx H s Q E S m q
 | @cons y f xs es hy r=>
  intro H s Q E S m q;dsimp only[Aq,Ad,Av,Bo,AF,Am,Ar,Bd,Au,Bf,A_,A6,A1,Ax,Ba,AB,AN,BP,Bg,BU,BO,BE,Bl]at q ih;rw[AQ]at q;show wpAny _ _ (do
   let v <-eval e env
   standAt p
   let t <-holding [v] (truthy v)
   match(if isAnd then PySem.BoolOp.And else PySem.BoolOp.Or),t with
   | .And,false| .Or,true=>pure v
   |_,_=>boolOp p (if isAnd then .And else .Or) (evalEach (f::es) env)) _ _ _
  refine wpAny_bind (wpAny_mono (hx H s _ E S m q) (λv s₁ z=>?_) λ_ _ z=>z);obtain⟨av,H₁,hv,S₁,m₁,q₁⟩:=z;refine wpAny_bind (wpAny_standAt (wpAny_bind (wpAny_holding (wpAny_mono (JH (Qb:=λb H=>if b=isAnd then BN g isAnd (y::xs) V Q E H else Q av H) hv S₁ m₁ q₁) (λt s₂ z=>?_) λ_ _ z=>z))));obtain⟨H₂,S₂,m₂,q₂⟩:=z;have ih':=ih H₂ s₂ Q E S₂ m₂;dsimp only[Aq,Ad,Av,Bo,AF,Am,Ar,Bd,Au,Bf,A_,A6,A1,Ax,Ba,AB,AN,BP,Bg,BU,BO,BE,Bl]at ih';cases isAnd<;>cases t<;>simp only[Bool.false_eq_true,if_false,if_true,reduceIte]at q₂ ih'⊢
  ·exact ih' q₂
  ·exact wpAny_pure (TQ.pure hv S₂ m₂ q₂)
  ·exact wpAny_pure (TQ.pure hv S₂ m₂ q₂)
  ·exact ih' q₂
theorem SP(h:BC (λx e=>HT g A R V s₀ x (isTrue e env (eval e env))) xs es):HT g A R V s₀ (.ao isAnd xs) (allTrue (if isAnd then .And else .Or) es env):=by
 induction h with
 |nil=>exact λH s Q E S m q=>q.elim
 | @cons x e _ _ hx r ih=>
 cases r with
 |nil=>
  intro H s Q E S m q;dsimp only[Aq,Ad,Av,Bo,AF,Am,Ar,Bd,Au,Bf,A_,A6,A1,Ax,Ba,AB,AN,BP,Bg,BU,BO,BE,Bl,AT,AQ]at q;refine rl (arm_allTrue_cons ..)<|wpAny_bind (wpAny_mono (hx H s Q E S m q) (λt s₁ z=>?_) λ_ _ z=>z);cases isAnd<;>cases t<;>exact wpAny_pure z
 | @cons y f xs es hy r=>
  intro H s Q E S m q;dsimp only[Aq,Ad,Av,Bo,AF,Am,Ar,Bd,Au,Bf,A_,A6,A1,Ax,Ba,AB,AN,BP,Bg,BU,BO,BE,Bl]at q;rw[AQ]at q;refine rl (arm_allTrue_cons ..)<|wpAny_bind (wpAny_mono (hx H s (λv b H=>if b=isAnd then BN g isAnd (y::xs) V (λv H=>BF v H λb=>Q v b H) E H else BF v H λb=>Q v b H) E S m q) (λt s₁ z=>?_) λ_ _ z=>z);obtain⟨v,H₁,S₁,m₁,q₁,hb⟩:=z;have ih':=ih H₁ s₁ Q E S₁ m₁;dsimp only[Aq,Ad,Av,Bo,AF,Am,Ar,Bd,Au,Bf,A_,A6,A1,Ax,Ba,AB,AN,BP,Bg,BU,BO,BE,Bl]at ih';cases isAnd<;>cases t<;>simp only[Bool.false_eq_true,if_false,if_true,reduceIte]at q₁ ih'⊢
  ·exact ih' q₁
  ·exact wpAny_pure ⟨v,H₁,S₁,m₁,hb (λb=>Q v b H₁) q₁,hb⟩
  ·exact wpAny_pure ⟨v,H₁,S₁,m₁,hb (λb=>Q v b H₁) q₁,hb⟩
  ·exact ih' q₁
end
theorem Fb(h:CL e=true):starEach (e::r) env=(false,eval e env)::starEach r env:=by
 cases e<;>first|rfl|exact Bool.noConfusion h
theorem FY:backTo pos ((false,t)::r)=(false,t)::backTo pos r:=rfl
section
variable{g:Gx}{A:Around}{R:RR}{V:VV}{s₀:Shared}{env:Env}{mg mb:Str->Option Value}{e₀:Env}{l₀:List Env}
abbrev Dk(g:Gx)(A:Around)(R:RR)(V:VV)(s₀:Shared)(env:Env):List X->List Expr->Prop:=BC (λx e=>HX g A R V s₀ x (eval e env)/\CL e=true)
theorem hxs(h:Dk g A R V s₀ env xs es):R7 g A R V s₀ xs (spliced (backTo pos (starEach es env))):=by
 induction h with
 |nil=>
  intro H s Q E S m q;exact spliced_nil ⟨[],H,.nil,S,m,q⟩
 |cons hx r ih=>
  intro H s Q E S m q;dsimp only[An,Al]at q
  (refine rl (Fb hx.2) ?_;dsimp only[FY])
  refine spliced_cons (wpAny_mono (hx.1 H s _ E S m q) (λv s₁ z=>?_) λ_ _ z=>z);obtain⟨av,H₁,hv,S₁,m₁,q₁⟩:=z;refine wpAny_mono (ih H₁ s₁ _ E S₁ m₁ q₁) (λvs s₂ z=>?_) λ_ _ z=>z;obtain⟨as,H₂,hvs,S₂,m₂,q₂⟩:=z;exact⟨av::as,H₂,.cons hv hvs,S₂,m₂,q₂⟩
theorem Lz(h:Dk g A R V s₀ env xs es):(backTo pos (starEach es env)).any (·.1)=false:=by
 induction h with
 |nil=>rfl
 |cons hx r ih=>(refine rl (Fb hx.2) ?_;dsimp only[FY];refine rl any_cons (rl ih ?_));rfl
theorem Mu(hx:Dk g A R V s₀ env xs es)(S:St g.c R H s.heap)(m:Sm s₀ s)
  (q:Ay g xs V Q' E H)(k:∀as vs H' s',VRs as vs->St g.c R H' s'.heap->Sm s₀ s'->Q' as H'->Q ⟨vs,[]⟩ s') :
  wpAny (model g.c.prog g.c.w) A (evalArgs f true (backTo pos (starEach es env)) []) Q (TE g R s₀ E) s:=by
 have z:=hxs (pos:=pos) hx H s Q' E S m q;cases hx with
 |nil=>
  dsimp only[An,Al]at q;exact evalArgs_nil3 (k [] [] H s .nil S m q)
 |cons hx r=>
  rw[Fb hx.2,FY]at z⊢;refine evalArgs_plain (wpAny_mono z (λvs s' z=>?_) λ_ _ z=>z);obtain⟨as,H',h1,h2,h3,h4⟩:=z;exact k as vs H' s' h1 h2 h3 h4
theorem MG(C:g.c.Ok mg mb)(hk:keepIn g.c.K (.ref f)=true)
  (hx:Dk g A R V s₀ env xs es)(S:St g.c R H s.heap)(m:Sm s₀ s)(q:Ay g xs V Q' E H)
  (k:∀as vs H' s',VRs as vs->St g.c R H' s'.heap->Sm s₀ s'->Q' as H'->wpAny (model g.c.prog g.c.w) A (call (.ref f) (first++vs)) Q (TE g R s₀ E) s') :
  wpAny (model g.c.prog g.c.w) A (callWith pos (.ref f) first (backTo pos (starEach es env)) []) Q (TE g R s₀ E) s:=
 callWith_of (P:=λh=>g.c.K.In h) (by refine rl (Lz hx) ?_;rfl) (keeps_K hk) (Mu hx S m q λas vs H' s' h1 h2 h3 h4=>⟨C.kin.keeps h2.stays,k as vs H' s' h1 h2 h3 h4⟩)
theorem Mr(hf:(∃i,f = .builtin i)\/∃i,f = .type i)
  (hx:Dk g A R V s₀ env xs es)(S:St g.c R H s.heap)(m:Sm s₀ s)(q:Ay g xs V Q' E H)
  (k:∀as vs H' s',VRs as vs->St g.c R H' s'.heap->Sm s₀ s'->Q' as H'->wpAny (model g.c.prog g.c.w) A (call f (first++vs)) Q (TE g R s₀ E) s') :
  wpAny (model g.c.prog g.c.w) A (callWith pos f first (backTo pos (starEach es env)) []) Q (TE g R s₀ E) s:=by
 rcases hf with⟨i,rfl⟩|⟨i,rfl⟩
 ·exact Calls.callWith_builtin (Lz hx) (Mu hx S m q k)
 ·exact PyProof.Rows.callWith_type (Lz hx) (Mu hx S m q k)
theorem HZ(h:Cb sc n e=true):∃id p,e = .Name id p:=by
 exact Fa (m:=λe=>∃id p,e = .Name id p) h λid p _=>⟨id,p,rfl⟩
theorem O'(ev:Ev g A R e₀ l₀)(hv:VRs as vs)(S:St g.c R H s.heap)(m:Sm s₀ s)
  (q:CallOK g.c g.n g.md f as Q E H):wpAny (model g.c.prog g.c.w) A (call (.ref (g.c.fa f)) vs) (TQ g R s₀ Q) (TE g R s₀ E) s:=by
 refine wpAny_call (q A (e₀::l₀) R s vs _ ⟨ev.aok.frames,by have:=ev.aok.depth;lia,by have:=ev.aok.units;exact Lg this,ev.aok.hand⟩ ev.stk S hv ?_ ?_)
 ·exact λav v s' H' h1 h2 h3 h4=>⟨av,H',h1,h2,m.trans h3,h4⟩
 ·exact λe cl s' H' h1 h2 h3=>⟨e,cl,H',rfl,h1,m.trans h2,h3⟩
theorem X6(C:g.c.Ok mg mb)(PO:AZ g.c)(ev:Ev g A R e₀ l₀)(fr:Frm R env sc nm V)(hn:Cb sc f fe=true)
  (hg:g.c.P.gfns.contains f=true)(hx:Dk g A R V s₀ env xs args):HX g A R V s₀ (.call f xs) (eval (.Call fe args [] pos) env):=λH s Q E S m q=>by
 dsimp only[Aq,Ad,Av,Bo,AF,Am,Ar,Bd,Au,Bf,A_,A6,A1,Ax,Ba,AB,AN,BP,Bg,BU,BO,BE,Bl]at q;refine Ap (PO.fn f hg) λh1 h2=>?_;obtain⟨id,p,rfl⟩:=HZ hn;exact wpAny_Call_NameR (I9 C fr S hn h1 (MG C h2 hx S m q λas vs H' s' k1 k2 k3 k4=>O' ev k1 k2 k3 k4))
theorem WV(C:g.c.Ok mg mb)(PO:AZ g.c)(ev:Ev g A R e₀ l₀)(fr:Frm R env sc nm V)(hn:Cb sc f.str fe=true)
  (hg:g.c.P.prims.contains f.str=true)(hx:Dk g A R V s₀ env xs args):HX g A R V s₀ (.prim f xs) (eval (.Call fe args [] pos) env):=λH s Q E S m q=>by
 dsimp only[Aq,Ad,Av,Bo,AF,Am,Ar,Bd,Au,Bf,A_,A6,A1,Ax,Ba,AB,AN,BP,Bg,BU,BO,BE,Bl]at q;refine Br (PO.prim f.str hg) λh1 h2 h3=>?_;rw[Tm]at h3;obtain⟨id,p,rfl⟩:=HZ hn;exact wpAny_Call_NameR (JZ C fr S hn h1 h2 h3 (Mr (TG f) hx S m q λas vs H' s' k1 k2 k3 k4=>X_ C ev k1 k2 k3 k4))
theorem RV{sc:Scope}{nm:List Str}{ty:String}{fe t x}{a}{pos}{tv}(C:g.c.Ok mg mb)(PO:AZ g.c)(fr:Frm R env sc nm V)(hn:Cb sc "isinstance" fe=true)(hg:g.c.P.prims.contains "isinstance"=true)
  (hst:CL t=true)(ht:∀{H:Ac} {s:Shared} {Q:Value->Shared->Prop} {E:Value->Shared->Prop},St g.c R H s.heap->Q tv s->wpAny (model g.c.prog g.c.w) A (eval t env) Q E s)(hx:HX g A R V s₀ a (eval x env))(hs:CL x=true)
  (k:∀{av:AV} {v:Value} {H:Ac} {s:Shared} {Q:AV->Ac->Prop} {E:String->Ac->Prop} {b:Bool},VR av v->St g.c R H s.heap->Sm s₀ s->DH g.c.P H av ty=some b->Q (.bool b) H->wpAny (model g.c.prog g.c.w) A (call (.builtin "isinstance") [v,tv]) (TQ g R s₀ Q) (TE g R s₀ E) s) :
  HX g A R V s₀ (.isinst a ty) (eval (.Call fe [x,t] [] pos) env):=λH s Q E S m q=>by
 replace q:Aj g a V (λx H=>G2 g.c.P ty x Q H) E H:=q;refine Br (PO.prim _ hg) λh1 h2 h3=>P4 (m:=λfe=>wpAny (model g.c.prog g.c.w) A (eval (.Call fe [x,t] [] pos) env) (TQ g R s₀ Q) (TE g R s₀ E) s) hn λid p hn=>wpAny_Call_NameR (JZ C fr S hn h1 h2 h3 (Calls.callWith_builtin (by refine rl (Fb hs) (rl (Fb hst) ?_);rfl) ?_))
 (refine rl (Fb hs) ?_;dsimp only[FY];refine rl (Fb hst) ?_;dsimp only[FY])
 refine evalArgs_plain (spliced_cons (wpAny_mono (hx H s _ E S m q) (λv s₁ z=>?_) λ_ _ z=>z));obtain⟨av,H₁,hv,S₁,m₁,q₁⟩:=z;refine spliced_cons (ht S₁ (spliced_nil ?_));unfold G2 at q₁;cases hb:DH g.c.P H₁ av ty with
 |none=>rw[hb]at q₁;exact q₁.elim
 |some b=>rw[hb]at q₁;exact k hv S₁ m₁ hb q₁
theorem UF(h:Cb sc n e=true):CL e=true:=Fa (m:=λe=>CL e=true) h λ_ _ _=>rfl
theorem R8(C:g.c.Ok mg mb)(PO:AZ g.c)(fr:Frm R env sc nm V)(hn:Cb sc "isinstance" fe=true)(hg:g.c.P.prims.contains "isinstance"=true)
  (ht:g.c.P.prims.contains ty=true)(hn':Cb sc ty t=true)(hty:ty="int"\/ty="bool"\/ty="str"\/ty="list")(hx:HX g A R V s₀ a (eval x env))(hs:CL x=true) :
  HX g A R V s₀ (.isinst a ty) (eval (.Call fe [x,t] [] pos) env):=by
 refine Br (PO.prim _ ht) λk1 k2 k3=>?_;have hp:J8 ty = .type ty:=by rcases hty with rfl|rfl|rfl|rfl<;>rfl
 rw[hp]at k3;refine RV C PO fr hn hg (UF hn') (λS q=>JZ C fr S hn' k1 k2 k3 q) hx hs λhv S m hb q=>?_;unfold DH at hb;rw[if_pos hty]at hb;exact e12 (map_eq_some_iff.mp hb) λk e1 e2=>SA hv S m e1 hty e2 q
theorem RP(C:g.c.Ok mg mb)(hns:Ir sl=true)(ha:HX g A R V s₀ a (eval v env))(hi:HX g A R V s₀ i (eval sl env)):HX g A R V s₀ (.sub a i) (eval (.Subscript v sl pos) env):=
 λH s Q E S m q=>by
 dsimp only[Aq,Ad,Av,Bo,AF,Am,Ar,Bd,Au,Bf,A_,A6,A1,Ax,Ba,AB,AN,BP,Bg,BU,BO,BE,Bl]at q;refine Subscript_ (wpAny_mono (ha H s _ E S m q) (λu s₁ z=>?_) λ_ _ z=>z);obtain⟨au,H₁,hu,S₁,m₁,q₁⟩:=z;refine wpAny_mono (hi H₁ s₁ _ E S₁ m₁ q₁) (λw s₂ z=>?_) λ_ _ z=>z;obtain⟨aw,H₂,hw,S₂,m₂,q₂⟩:=z;exact Sc C hu hw S₂ m₂ q₂ (by intro o j;cases sl<;>first|rfl|exact Bool.noConfusion hns)
def HO(g:Gx)(A:Around)(R:RR)(V:VV)(s₀:Shared)(env:Env):Option X->Option Expr->Prop
 |none,none=>True
 |some x,some e=>HX g A R V s₀ x (eval e env)
 |_,_=>False
theorem MM(h:HO g A R V s₀ env o oe)(S:St g.c R H s.heap)(m:Sm s₀ s)(q:F6 g o V Q E H) :
  wpAny (model g.c.prog g.c.w) A (valueOrNone (evalOpt oe env)) (λv s'=>∃a H',((a=none/\v = .none)\/∃x,a=some x/\VR x v)/\St g.c R H' s'.heap/\Sm s₀ s'/\Q a H') (TE g R s₀ E) s:=by
 cases o with
 |none=>cases oe with
  |none=>exact wpAny_pure ⟨none,H,.inl ⟨rfl,rfl⟩,S,m,q⟩
  |some=>exact h.elim
 |some x=>cases oe with
  |none=>exact h.elim
  |some e=>
   rw[Df]at q;refine wpAny_mono (h H s _ E S m q) (λv s' z=>?_) λ_ _ z=>z;obtain⟨a,H',hv,S',m',q'⟩:=z;exact⟨some a,H',.inr ⟨a,rfl,hv⟩,S',m',q'⟩
theorem Wj{a:X}{lo hi st}(ha:HX g A R V s₀ a (eval v env))(hl:HO g A R V s₀ env lo l)(hu:HO g A R V s₀ env hi u)(ht:HO g A R V s₀ env st t) :
  HX g A R V s₀ (.slice a lo hi st) (eval (.Subscript v (.Slice l u t p) pos) env):=λH s Q E S m q=>by
 dsimp only[Aq,Ad,Av,Bo,AF,Am,Ar,Bd,Au,Bf,A_,A6,A1,Ax,Ba,AB,AN,BP,Bg,BU,BO,BE,Bl]at q;refine Subscript_ (wpAny_mono (ha H s _ E S m q) (λo s₁ z=>?_) λ_ _ z=>z);obtain⟨ao,H₁,ho,S₁,m₁,q₁⟩:=z;refine rl (arm_eval_Slice ..)<|wpAny_bind (wpAny_mono (MM hl S₁ m₁ q₁) (λvl s₂ z=>e24 z λal H₂ hvl S₂ m₂ q₂=>wpAny_bind (wpAny_holding (wpAny_mono (MM hu S₂ m₂ q₂) (λvu s₃ z=>e24 z λau H₃ hvu S3 m₃ q₃=>wpAny_bind (wpAny_holding (wpAny_mono (MM ht S3 m₃ q₃) (λvt s₄ z=>e24 z λat' H₄ hvt S₄ m₄ q₄=>?_) λ_ _ z=>z))) λ_ _ z=>z))) λ_ _ z=>z);unfold newFields;exact wpAny_newObj_type (WO ho hvl hvu hvt S₄ m₄ q₄) (by show(3:Nat)<=sizeLine+2;exact Nat.le_of_ble_eq_true (by rfl))
theorem U8(h:VR a v):handedIn v=true:=by cases h<;>rfl
theorem NO(h:ofString a=ofString b):a=b:=by
 rw[Str.ofString_eq_toList,Str.ofString_eq_toList]at h;have h1:=congrArg (λx:Str=>x.cps.toList) h;dsimp only[List.toList_toArray]at h1;have h2:=(List.map_inj_right (f:=Char.toNat) λx y e=>Char.ext (UInt32.toNat_inj.mp e)).mp h1;exact String.ext h2
theorem L0(h:DK es ents):OVR (C5 es n) ((ents.find? (·.key.isStr (ofString n))).map (·.val))/\(ents.any (·.refKey))=false:=by
 induction es generalizing ents with
 |nil=>cases ents with
  |nil=>exact⟨.none,rfl⟩
  |cons=>exact h.elim
 |cons na r ih=>
  cases ents with
  |nil=>exact h.elim
  |cons e q=>
  obtain⟨n',a⟩:=na;obtain⟨⟨t,hk⟩,hv,hr⟩:=h;refine Ap (ih hr) λi1 i2=>⟨?_,?_⟩
  ·unfold C5 at i1⊢;simp only[find?_cons,hk,Value.isStr];by_cases z:n'=n
   ·subst z;simp;exact .some hv
   ·have:(ofString n'==ofString n)=false:=by
     apply beq_eq_false_iff_ne.mpr;intro w;exact z (NO w)
    simp only[this,z];exact i1
  ·refine rl any_cons (rl i2 ?_);simp[DictEntry.refKey,hk]
theorem Pi(hb:Fh v=true):attributeBase v at' env (eval v env)=eval v env:=by
 cases v with
 |Call f as ks p=>exact Jv (m:=λf=>attributeBase (.Call f as ks p) at' env (eval (.Call f as ks p) env)=eval (.Call f as ks p) env) (show(GV f λ_ _ _=>true)=true from hb) λ_ _ _ _=>rfl
 |_=>rfl
inductive Kk(c:Cx)(h:Heap)(p:Addr)(cl:String)(es:List (String×AV)):Prop
 |mk {d ents k} (I:InstAt h p (instObj (c.ca cl) d) (c.ca cl) (some (dictOf ents k))) (a:DK es ents):Kk c h p cl es
theorem Q1(S:St g.c R H h)(e:H p=some (.inst cl es)):Kk g.c h p cl es:=by
 exact e35 (S.setAttr e) λd ents k x1 x2 x3 x4 _=>.mk ⟨x1,rfl,rfl,x2⟩ x3
theorem Wt{H:Ac}{h:Heap}{n:String}{x:AV}{u:Value}{Q:AV->Ac->Prop}{m:Value->Prop}(S:St g.c R H h)(ho:VR x u)(q:Kd g.c.P n x Q H)
  (f:∀p cl es v,g.c.P.attrs.contains (cl,n)=true->Kk g.c h p cl es->C5 es n=some v->Q v H->m (.ref p)):m u:=by
 cases ho with
 |ref p=>
  obtain⟨oo,e⟩:∃oo,H p=oo:=⟨_,rfl⟩
  dsimp only[Kd]at q;rw[e]at q;cases oo with
  |none=>exact q.elim
  |some oo=>cases oo with
   |inst cl es=>
    refine Ap q λhat q=>?_;cases hw:C5 es n with
    |none=>rw[hw]at q;exact q.elim
    |some w=>rw[hw]at q;exact f p cl es w hat (Q1 S e) hw q
   |book B=>
    obtain⟨rfl,hat,q⟩:=q;obtain⟨fr,sa,pa,d,ents,k,x1,x2,x3⟩:=S.bookAttr e;exact f p "Book" _ _ hat (.mk ⟨x1,rfl,rfl,x2⟩ x3) rfl q
   |_=>exact q.elim
 |_=>exact q.elim
theorem VX{H:Ac}{h:Heap}{n:String}{x:AV}{u:Value}{K:String->Addr->Ac->Prop}{m:Value->Prop}(S:St g.c R H h)(ho:VR x u)(q:Kc g.c.P n x K H)
  (f:∀p cl es,g.c.P.meths.contains (cl,n)=true->Kk g.c h p cl es->C5 es n=none->K (cl++"."++n) p H->m (.ref p)):m u:=by
 cases ho with
 |ref p=>
  obtain⟨oo,e⟩:∃oo,H p=oo:=⟨_,rfl⟩
  dsimp only[Kc]at q;rw[e]at q;cases oo with
  |none=>exact q.elim
  |some oo=>cases oo with
   |inst cl es=>exact f p cl es q.1 (Q1 S e) q.2.1 q.2.2
   |book B=>
    refine Br q λhat hno q=>?_;obtain⟨fr,sa,pa,d,ents,k,x1,x2,x3⟩:=S.bookAttr e;refine f p "Book" _ hat (.mk ⟨x1,rfl,rfl,x2⟩ x3) ?_ q;simp only[bookAttrs,contains_cons,List.contains_nil,Bool.or_false,Bool.or_eq_false_iff,beq_eq_false_iff_ne]at hno;refine EU hno λn1 n2 n3 n4=>?_;simp[C5,n1.symm,n2.symm,n3.symm,n4.symm]
   |_=>exact q.elim
 |_=>exact q.elim
theorem X7{a}{n}{v}{pos}(C:g.c.Ok mg mb)(PO:AZ g.c)(hb:Fh v=true)(ha:HX g A R V s₀ a (eval v env)):HX g A R V s₀ (.attr a n) (eval (.Attribute v (ofString n) pos) env):=
 λH s Q E S m q=>by
 replace q:Aj g a V (λx H=>Kd g.c.P n x Q H) E H:=q;refine rl (arm_eval_Attribute ..) (rl (Pi hb ..) (wpAny_bind (wpAny_mono (ha H s _ E S m q) (λo s₁ z=>?_) λ_ _ z=>z)));obtain⟨ao,H₁,ho,S₁,m₁,q₁⟩:=z;refine wpAny_bind (wpAny_standAt (wpAny_bind (wpAny_holding (Wt (m:=λo=>wpAny (model g.c.prog g.c.w) A (getAttr o (ofString n) true) (λa s'=>wpAny (model g.c.prog g.c.w) A (do letTemporaryGo v o a;pure a) (TQ g R s₀ Q) (TE g R s₀ E) s') (TE g R s₀ E) s₁) S₁ ho q₁ λp cl es w hat O hw q₁=>EU (PO.attr cl n hat) λc1 c2 c3 _=>?_))));obtain⟨I,x3⟩:=O;refine Ap (L0 (n:=n) x3) λf1 f2=>?_;rw[hw]at f1;generalize hf:(List.find? (λx:DictEntry=>x.key.isStr (ofString n)) _)=fe at f1;cases fe with
 |none=>cases f1
 |some en=>
  cases f1 with
  |some hv=>
   refine get_value (v:=en.val) (C.kin.keeps S₁.stays) I (plainGet_of c1).1 (findObj_own c2 c3 rfl ?_) ?_ ?_
   ·rw[lookIn_dict];unfold getL;rw[hf]
   ·exact U8 hv
   ·exact wpAny_bind (wpAny_letTemporaryGo (wpAny_pure (TQ.toks hv S₁ m₁ q₁)))
end
section
variable{g:Gx}{A:Around}{R:RR}{V:VV}{s₀:Shared}{env:Env}{mg mb:Str->Option Value}{e₀:Env}{l₀:List Env}
theorem IV(h:Dk g A R V s₀ env xs es):∀(H:Ac) (s:Shared) (Q:List AV->Ac->Prop) (E:String->Ac->Prop),St g.c R H s.heap->Sm s₀ s->Ay g xs V Q E H->
  wpAny (model g.c.prog g.c.w) A (spliced (backTo pos (starEach es env))) (λvs s'=>vs.length=es.length/\Nr g R s₀ Q vs s') (TE g R s₀ E) s:=by
 induction h with
 |nil=>exact λH s Q E S m q=>spliced_nil ⟨rfl,[],H,.nil,S,m,q⟩
 |cons hx r ih=>
  intro H s Q E S m q;dsimp only[An,Al]at q
  (refine rl (Fb hx.2) ?_;dsimp only[FY])
  refine spliced_cons (wpAny_mono (hx.1 H s _ E S m q) (λv s₁ z=>?_) λ_ _ z=>z);obtain⟨av,H₁,hv,S₁,m₁,q₁⟩:=z;refine wpAny_mono (ih H₁ s₁ _ E S₁ m₁ q₁) (λvs s₂ z=>?_) λ_ _ z=>z;obtain⟨hl,as,H₂,hvs,S₂,m₂,q₂⟩:=z;exact⟨congrArg Nat.succ hl,av::as,H₂,.cons hv hvs,S₂,m₂,q₂⟩
theorem WX(hx:Dk g A R V s₀ env xs es)(hl:es.length<1000):HX g A R V s₀ (.list xs) (eval (.List es pos) env):=λH s Q E S m q=>by
 dsimp only[Aq,Ad,Av,Bo,AF,Am,Ar,Bd,Au,Bf,A_,A6,A1,Ax,Ba,AB,AN,BP,Bg,BU,BO,BE,Bl]at q;refine wpAny_List (wpAny_mono (IV hx H s _ E S m q) (λvs s₁ z=>?_) λ_ _ z=>z);obtain⟨hn,as,H₁,hv,S₁,m₁,q₁⟩:=z;refine⟨by refine rl hn ?_;unfold sizeLine;exact F9 hl (by decide),?_⟩;obtain⟨e,S'⟩:=S₁.newObj (o:=.list as) (le_refl _) (λ_ _ z=>Heap.get?_push_of_some _ z) (by refine rl (Heap.size_push ..) ?_;exact Dw) (by intro _ _ z;trivial) (λD=>⟨vs,0,Heap.get?_push_size _ rfl,hv⟩);exact⟨_,_,.ref _,S',m₁.heap _,q₁ _ e⟩
theorem Wi(hx:Dk g A R V s₀ env xs es)(hl:es.length<1000):HX g A R V s₀ (.tuple xs) (eval (.Tuple es k pos) env):=λH s Q E S m q=>by
 dsimp only[Aq,Ad,Av,Bo,AF,Am,Ar,Bd,Au,Bf,A_,A6,A1,Ax,Ba,AB,AN,BP,Bg,BU,BO,BE,Bl]at q;refine wpAny_Tuple (wpAny_mono (IV hx H s _ E S m q) (λvs s₁ z=>?_) λ_ _ z=>z);obtain⟨hn,as,H₁,hv,S₁,m₁,q₁⟩:=z;refine⟨by refine rl hn ?_;unfold sizeLine;exact F9 hl (by decide),?_⟩;obtain⟨e,S'⟩:=S₁.newObj (o:=.tuple as) (le_refl _) (λ_ _ z=>Heap.get?_push_of_some _ z) (by refine rl (Heap.size_push ..) ?_;exact Dw) (by intro _ _ z;trivial) (λD=>⟨vs,0,Heap.get?_push_size _ rfl,hv⟩);exact⟨_,_,.ref _,S',m₁.heap _,q₁ _ e⟩
theorem Wm:HX g A R V s₀ (.dict [] []) (eval (.Dict [] [] pos) env):=λH s Q E S m q=>by
 dsimp only[Aq,Ad,Av,Bo,AF,Am,Ar,Bd,Au,Bf,A_,A6,A1,Ax,Ba,AB,AN,BP,Bg,BU,BO,BE,Bl]at q;refine wpAny_Dict_empty ?_;obtain⟨e,S'⟩:=S.newObj (o:=.dict 0 []) (h':=s.heap.push {cls:=.type "dict",data:=.dict #[]}) (le_refl _) (λ_ _ z=>Heap.get?_push_of_some _ z) (by refine rl (Heap.size_push ..) ?_;exact Dw) (by intro _ _ z;trivial) (λD=>⟨[],⟨_,#[],Heap.get?_push_size _ rfl,⟨rfl,rfl,rfl⟩,rfl,λ_ h=>by simp at h,.nil,nodup_nil⟩,.nil⟩)
 ·exact⟨_,_,.ref _,S',m.heap _,q _ e⟩
theorem L_:∀{xs:List X} {es:List Expr},Dk g A R V s₀ env xs es->(backTo pos (starEach es env)).all (λx=>!x.1)=true
 |_,_,.nil=>rfl
 |_,_,.cons hx r=>by
  (refine rl (Fb hx.2) ?_;dsimp only[FY];refine rl List.all_cons (rl (L_ r) ?_));rfl
theorem OS(hb:Fh o=true)(hall:(backTo pos (starEach args env)).all (λx=>!x.1)=true)
  (hlen:args.length<29)(hline:(apos.endLine==pos.line)=true)
  (h:wpAny M A (eval o env) (λov s₁=>∀pl,wpAny M A (getMethod ov name pl) (λfx s₂=>wpAny M A (callWith pos fx.1 fx.2 (backTo pos (starEach args env)) []) Q E s₂) E s₁) E s) :
  wpAny M A (eval (.Call (.Attribute o name apos) args [] pos) env) Q E s:=by
 refine rl (arm_eval_Call ..) (rl (Pi hb ..) (wpAny_bind (wpAny_mono h (λov s₁ h₁=>wpAny_bind (wpAny_standAt ?_)) λ_ _ e=>e)));have hform:methodCallForm (args.length+([]:List Keyword).length) (backTo pos (starEach args env)) (backToKw pos (keywordEach [] env))=true:=by
  unfold methodCallForm;refine rl (hall ..) ?_;simp only[Bool.true_and];show(true&&decide (args.length+0+0<30))=true;simp;lia
 have hpos:methodCallPos true o env apos pos=pure pos:=by unfold methodCallPos;simp[hline]
 unfold methodCall;exact rl (hform ..)<|wpAny_bind (wpAny_holding (wpAny_mono (h₁ _) (λfx s₂ h₂=>wpAny_bind (wpAny_of_eq hpos h₂)) λ_ _ e=>e))
theorem WW{a:X}{mt}(C:g.c.Ok mg mb)(PO:AZ g.c)(ev:Ev g A R e₀ l₀)(hb:Fh o=true)(hline:(apos.endLine==pos.line)=true)(hlen:args.length<29)
  (ha:HX g A R V s₀ a (eval o env))(hx:Dk g A R V s₀ env xs args):HX g A R V s₀ (.meth a mt xs) (eval (.Call (.Attribute o (ofString mt) apos) args [] pos) env):=λH s Q E S m q=>by
 replace q:Aj g a V (λx H=>Kc g.c.P mt x (λf p H=>Ay g xs V (λvs H=>CallOK g.c g.n g.md f (.ref p::vs) Q E H) E H) H) E H:=q;refine OS hb (L_ hx) hlen hline (wpAny_mono (ha H s _ E S m q) (λov s₁ z=>?_) λ_ _ z=>z);obtain⟨ao,H₁,ho,S₁,m₁,q₁⟩:=z;intro pl;refine VX (m:=λov=>wpAny _ A (getMethod ov (ofString mt) pl) _ (TE g R s₀ E) s₁) S₁ ho q₁ λp cl es hmm O hno q₁=>EU (PO.meth cl mt hmm) λc1 c2 c3 c4=>?_;obtain⟨I,x3⟩:=O;refine Ap (L0 (n:=mt) x3) λf1 f2=>?_;rw[hno]at f1;generalize hf:(List.find? (λx:DictEntry=>x.key.isStr (ofString mt)) _)=fe at f1;cases fe with
 |some=>cases f1
 |none=>
 refine method_fn (C.kin.keeps S₁.stays) I (plainGet_of c1).1 (plainGet_of c1).2 c2 (beq_iff_eq.mp c3) ?_ ?_
 ·show(lookIn (ofString mt) (dictOf _ _)).map _=_;refine rl (lookIn_dict ..) ?_;unfold getL;refine rl (hf ..) (rl (f2 ..) ?_);rfl
 ·exact MG C c4 hx S₁ m₁ q₁ λas vs H' s' k1 k2 k3 k4=>O' ev (.cons (.ref p) k1) k2 k3 k4
theorem V9(C:g.c.Ok mg mb)(S:St g.c R H s.heap)(m:Sm s₀ s)(e:H p=some (.dict ep es))(q:∀z,H z=none->Q (.ref z) (up H z (.vals p))) :
  wpAny (model g.c.prog g.c.w) A (call (.builtin "dict.values") [.ref p]) (TQ g R s₀ Q) E s:=by
 refine e12 (DG S e) λkvs hd hr=>call_meetsIn PySem.F.slot_dict_values hd.dictOf.typeIs PySem.F.entry_dict_values (PySem.F.args_dict_values_1 _) (meets_dict_values (strKind g.c.prog g.c.w) p (I8 C S e)) ⟨⟨kvs,hd.dictOf⟩,?_⟩;obtain⟨z,S'⟩:=S.newObj (o:=.vals p) (le_refl _) (λ_ _ z=>Heap.get?_push_of_some _ z) (rl (Heap.size_push ..) (le_succ _)) (by intro _ _ z;trivial) (λD=>Heap.get?_push_size _ rfl);exact⟨_,_,.ref _,S',m.heap _,q _ z⟩
theorem VA(S:St g.c R H s.heap)(m:Sm s₀ s)(e:H p=some (.list xs))(e':H b=some (.list ys))(hz:xs.length+ys.length<=sizeLine)(q:Q .none (up H p (.list (xs++ys)))) :
  wpAny (model g.c.prog g.c.w) A (call (.builtin "list.extend") [.ref p,.ref b]) (TQ g R s₀ Q) E s:=by
 refine e23 (Cj S e) λvs n k1 k2 k3=>e23 (Cj S e') λws n' l1 l2 l3=>?_;have h1:=k2.length;have h2:=l2.length;refine call_meets PySem.F.slot_list_extend ⟨_,k1,rfl⟩ PySem.F.entry_list_extend (PySem.F.args_list_extend_2 _ _) (AutoSeq1.list_extend_list_list_0 p vs.toArray n b ws.toArray n' (by
  rw[size_toArray,size_toArray];intro z;have:=(Bool.and_eq_true_iff.mp z).2;unfold Builtin.List.listTooLong at this;have:=of_decide_eq_true this;lia) (by rw[size_toArray];lia) (by rw[size_toArray,size_toArray];lia)) ⟨k1,l1,?_⟩
 have hu:=(Heap.get?_update_self (Obj.mapSeq λx=>x++ws.toArray) k1 rfl).trans (congrArg (λa=>some (W.listOf a _)) (show vs.toArray++ws.toArray=(vs++ws).toArray by simp));exact⟨.none,_,.none,S.setObj (o':=.list (xs++ys)) e (by intro _ _ z;trivial) (Heap.SameBut.update ..) (λD=>⟨vs++ws,_,hu,k2.append l2⟩),m.step _ _,q⟩
noncomputable def BM.id:BM->String
 | .append=>"list.append" | .index=>"list.index" | .count=>"list.count" | .clear=>"list.clear" | .values=>"dict.values" | .pop=>"dict.pop" | .upper=>"str.upper" | .items=>"dict.items" | .remove=>"list.remove" | .extend=>"list.extend"
theorem M_(C:g.c.Ok mg mb)(un:A.units+1+64<cLine)(ho:VR o u)(hv:VRs as vs)(S:St g.c R H s.heap)(m:Sm s₀ s)(q:FS o bm as Q H) :
  wpAny (model g.c.prog g.c.w) A (call (.builtin bm.id) (u::vs)) (TQ g R s₀ Q) E s:=by
 cases bm with
 |append=>exact Fc (m:=λvs=>wpAny _ A (call (.builtin "list.append") (u::vs)) (TQ g R s₀ Q) E s) hv q λa v h q=>JU (m:=λu=>wpAny _ A (call (.builtin "list.append") [u,v]) (TQ g R s₀ Q) E s) ho q λp xs e q=>VB h S m e q.1 q.2
 |values=>cases hv with
  |nil=>exact XK (m:=λu=>wpAny _ A (call (.builtin "dict.values") [u]) (TQ g R s₀ Q) E s) ho q λp ep es e q=>V9 C S m e q
  |cons=>exact q.elim
 |extend=>
  exact Fc (m:=λvs=>wpAny _ A (call (.builtin "list.extend") (u::vs)) (TQ g R s₀ Q) E s) hv q λa v h q=>JU (m:=λu=>wpAny _ A (call (.builtin "list.extend") [u,v]) (TQ g R s₀ Q) E s) ho q λp xs e q=>JU (m:=λv=>wpAny _ A (call (.builtin "list.extend") [.ref p,v]) (TQ g R s₀ Q) E s) h q λb ys e' q=>VA S m e e' q.1 q.2
 |_=>exact q.elim
theorem Yd(ho:VR o u)(S:St g.c R H s.heap)(hon:Fs bm o H)(q:Q (.builtin bm.id,[u]) s) :
  wpAny (model g.c.prog g.c.w) A (getMethod u (ofString bm.str) pl) Q E s:=by
 cases ho with
 |str x t hx=>cases hon;exact getMethod_builtin (typeIs_str _ _ _) PySem.F.plainAttrs_str PySem.F.slot_str_upper PySem.F.type_str_upper (λa h=>by cases h) q
 |ref p=>
  obtain⟨oo,e⟩:∃oo,H p=oo:=⟨_,rfl⟩
  dsimp only[Fs]at hon;rw[e]at hon;cases oo with
  |none=>exact hon.elim
  |some oo=>
  cases oo with
  |list xs=>
   refine e23 (Cj S e) λws n k1 k2 k3=>?_;have k0:∀a,Value.ref p = .ref a->∃o,s.heap.get? a=some o/\o.dict=none:=λa h=>by cases h;exact⟨_,k1,rfl⟩
   rcases hon with rfl|rfl|rfl|rfl|rfl|rfl
   ·exact getMethod_builtin ⟨_,k1,rfl⟩ PySem.F.plainAttrs_list PySem.F.slot_list_append PySem.F.type_list_append k0 q
   ·exact getMethod_builtin ⟨_,k1,rfl⟩ PySem.F.plainAttrs_list PySem.F.slot_list_clear PySem.F.type_list_clear k0 q
   ·exact getMethod_builtin ⟨_,k1,rfl⟩ PySem.F.plainAttrs_list PySem.F.slot_list_index PySem.F.type_list_index k0 q
   ·exact getMethod_builtin ⟨_,k1,rfl⟩ PySem.F.plainAttrs_list PySem.F.slot_list_count PySem.F.type_list_count k0 q
   ·exact getMethod_builtin ⟨_,k1,rfl⟩ PySem.F.plainAttrs_list PySem.F.slot_list_remove PySem.F.type_list_remove k0 q
   ·exact getMethod_builtin ⟨_,k1,rfl⟩ PySem.F.plainAttrs_list PySem.F.slot_list_extend PySem.F.type_list_extend k0 q
  |dict ep es=>
   refine e12 (DG S e) λkvs z01 hr=>?_;obtain⟨od,es,k1,kc,_⟩:=z01;have k0:∀a,Value.ref p = .ref a->∃o,s.heap.get? a=some o/\o.dict=none:=λa h=>by cases h;exact⟨_,k1,kc.2.1⟩
   rcases hon with rfl|rfl|rfl
   ·exact getMethod_builtin ⟨_,k1,kc.1⟩ PySem.F.plainAttrs_dict PySem.F.slot_dict_values PySem.F.type_dict_values k0 q
   ·exact getMethod_builtin ⟨_,k1,kc.1⟩ PySem.F.plainAttrs_dict PySem.F.slot_dict_pop PySem.F.type_dict_pop k0 q
   ·exact getMethod_builtin ⟨_,k1,kc.1⟩ PySem.F.plainAttrs_dict PySem.F.slot_dict_items PySem.F.type_dict_items k0 q
  |_=>exact hon.elim
 |_=>exact hon.elim
theorem SN(C:g.c.Ok mg mb)(ev:Ev g A R e₀ l₀)(hb:Fh o=true)(hline:(apos.endLine==pos.line)=true)(hlen:args.length<29)
  (ha:HX g A R V s₀ a (eval o env))(hx:Dk g A R V s₀ env xs args):HX g A R V s₀ (.bm a bm xs) (eval (.Call (.Attribute o (ofString bm.str) apos) args [] pos) env):=λH s Q E S m q=>by
 dsimp only[Aq,Ad,Av,Bo,AF,Am,Ar,Bd,Au,Bf,A_,A6,A1,Ax,Ba,AB,AN,BP,Bg,BU,BO,BE,Bl]at q;refine OS hb (L_ hx) hlen hline (wpAny_mono (ha H s _ E S m q) (λov s₁ z=>?_) λ_ _ z=>z);obtain⟨ao,H₁,ho,S₁,m₁,hon,q₁⟩:=z;intro pl;exact Yd ho S₁ hon (Mr (.inl ⟨_,rfl⟩) hx S₁ m₁ q₁ λas vs H' s' k1 k2 k3 k4=>M_ C (by have:=ev.aok.units;exact Lb this (by decide)) ho k1 k2 k3 k4)
theorem RS(C:g.c.Ok mg mb)(PO:AZ g.c)(ev:Ev g A R e₀ l₀)(fr:Frm R env sc nm V)(hn:Cb sc cl fe=true)
  (hg:g.c.P.classes.contains cl=true)(hx:Dk g A R V s₀ env xs args):HX g A R V s₀ (.new cl xs) (eval (.Call fe args [] pos) env):=λH s Q E S m q=>by
 dsimp only[Aq,Ad,Av,Bo,AF,Am,Ar,Bd,Au,Bf,A_,A6,A1,Ax,Ba,AB,AN,BP,Bg,BU,BO,BE,Bl]at q;refine Yr (PO.cls cl hg) λh1 h2 h3 h4 h5=>?_;refine e21 (HZ hn) λid p z12=>?_;obtain rfl:=z12;refine wpAny_Call_NameR (I9 C fr S hn h1 (MG C h2 hx S m q λas vs H' s' k1 k2 k3 k4=>?_));obtain⟨hh,gg,dd,t,os⟩:=s';have X:=C.kin.keeps k2.stays;refine Ap (k2.newInst (cl:=cl)) λe S'=>wpAny_call (make_core (makes_of X h3) (looks_findIn X h4) (λself=>bind_fn X self (beq_iff_eq.mp h5)) (.inl rfl) (k4 _ e _ (e₀::l₀) R _ _ _ ⟨?_,?_,?_,?_⟩ ev.stk S' (.cons (.ref _) k1) ?_ ?_))
 ·exact ev.aok.frames
 ·have:=ev.aok.depth;have hw:(Code.builtin "type.__call__" ⟨.ref (g.c.ca cl)::vs,[]⟩).weight=1:=rfl;show A.depth+(Code.builtin "type.__call__" ⟨.ref (g.c.ca cl)::vs,[]⟩).weight+110+0+8*g.n<recursionLimit;lia
 ·have:=ev.aok.units;have hw:(Code.builtin "type.__call__" ⟨.ref (g.c.ca cl)::vs,[]⟩).cUnits=1:=rfl;show A.units+(Code.builtin "type.__call__" ⟨.ref (g.c.ca cl)::vs,[]⟩).cUnits+100+10*0+60*g.n<cLine;lia
 ·exact ev.aok.hand
 ·rintro av v s' H' z1 z2 z3 ⟨rfl,z4⟩;cases z1;exact⟨rfl,_,_,.ref _,z2,k3.trans ((Sm.mk' _ _ _).trans z3),z4⟩
 ·exact λe cl s' H' z1 z2 z3=>⟨e,cl,H',rfl,z1,k3.trans ((Sm.mk' _ _ _).trans z2),z3⟩
end
open Builtin Builtin.ObjectAttr Builtin.Getset_descriptor in
theorem U7(C:g.c.Ok mg mb)(PO:AZ g.c)(fr:Frm R env sc nm V)(hn:Cb sc "isinstance" fe=true)(hg:g.c.P.prims.contains "isinstance"=true)
  (ht:(g.c.P.prims.contains ty&&["int","bool","str","list"].contains ty)=true)(hn':Cb sc ty t=true)(hx:HX g A R V s₀ a (eval x env))(hs:CL x=true) :
  HX g A R V s₀ (.isinst a ty) (eval (.Call fe [x,t] [] pos) env):=
 R8 C PO fr hn hg (Aa ht).1 hn' (by have:=contains_iff_mem.mp (Aa ht).2;simpa only[mem_cons,not_mem_nil,or_false]using this) hx hs
theorem St1.noted(S:St1 c R H h){ls:List Addr}
  (hls:∀a∈ls,(∃m,R a=some (.ns m))\/(R a=none/\H a=none/\c.base.get? a=none/\∃o vs,h.get? a=some o/\o.data = .fields vs))
  (k:∀b o,h.get? b=some o->b∉ls->h'.get? b=some o)(sl:∀b o,h.get? b=some o->(∀vs,o.data≠.fields vs)->∃t,h'.get? b=some {o with slots:=t})
  (hsz:c.base.objs.size<=h'.objs.size):St1 c R H h':=by
 obtain⟨s1,s2,s3,D,s4⟩:=S;have hb:∀b o,c.base.get? b=some o->b∉ls:=λb o e hm=>by
  rcases hls b hm with⟨m,q⟩|⟨_,_,q,_⟩
  ·have:=CB (s3 b _ q).1;have:=BR e;omega
  ·rw[q]at e;trivial
 have hH:∀a o,H a=some o->a∉ls:=λa o e hm=>by
  rcases hls a hm with⟨m,q⟩|⟨_,q,_⟩
  ·have:=(s4.above a o e).2;rw[q]at this;trivial
  ·rw[q]at e;trivial
 refine⟨λb o e=>k b o (s1 b o e) (hb b o e),hsz,λb r e=>⟨(s3 b r e).1,?_⟩,D,⟨λa o e=>?_,s4.above,s4.dict,s4.inj⟩⟩
 ·by_cases q:b∈ls
  ·rcases hls b q with⟨m,z⟩|⟨z,_⟩
   ·rw[e]at z;obtain rfl:=Ak z;refine e33 ((s3 b _ e).2) λo es ep ho hd rr=>?_;obtain⟨t,ht⟩:=sl b o ho (λvs w=>by rw[hd]at w;trivial);exact⟨_,es,ep,ht,hd,rr⟩
   ·rw[e]at z;trivial
  ·exact(s3 b r e).2.agree λob z=>k b ob z q
 ·refine(s4.rep a o e).agree (λob z=>k a ob z (hH a o e)) λcl es eo=>⟨rfl,λob z=>?_⟩
  subst eo;refine k _ ob z λhm=>Br (s4.dict a cl es e) λ_ y2 y3=>?_;rcases hls _ hm with⟨m,q⟩|⟨_,_,_,o',vs,q1,q2⟩
  ·rw[q]at y2;trivial
  ·obtain⟨_,ents,n,w,_⟩:=s4.rep a _ e;rw[w]at q1;cases q1;cases q2
theorem St1.frames(S:St1 c R H h)(hs:Dx R l)(hB:∀e∈l,B.get? e.locals=none):h.FunFrames B l:=by
 induction l with
 |nil=>trivial
 |cons e l ih=>
  have F:=hs e (.head _);exact e11 F.ns λm hm=>e33 ((S.res _ _ hm).2) λo es ep ho hd _=>⟨by refine rl F.kind ?_;simp,⟨e.locals,o,F.frame,hB e (.head _),ho,λvs w=>by rw[hd]at w;trivial⟩,ih (λx hx=>hs x (.tail _ hx)) λx hx=>hB x (.tail _ hx)⟩
def DU(env:Env)(fl:Value):Prop:=fl = .ellipsis\/fl = .none\/fl=rawInt env.locals
theorem OE{e}(X:St1 c R H h)(re:R e=none)(he:H e=none)(be:c.base.get? e=none)(hs:Dx R (env::outer))
  (hls:∀a∈ls,(∃m,R a=some (.ns m))\/(R a=none/\H a=none/\c.base.get? a=none/\∃o vs,h.get? a=some o/\o.data = .fields vs))
  (N:Heap.NotedW (hideAll h ls) (env::outer) e (.ref (c.ca cl)) a0 fl h h')(hfl:fl≠.ellipsis)(kn:(c.P.excs.lookup cl).isSome=true):ExcSt1 c R H e cl fl h':=by
 have n1:=N.1;have n2:=N.2.1;have n3:=N.2.2.1;have n4:=N.2.2.2;have F:=hs env (.head _);refine e11 F.ns λm hm=>e33 ((X.res _ _ hm).2) λo es ep ho hd _=>?_;obtain⟨t,ht⟩:=n4 _ o ho (λvs w=>by rw[hd]at w;trivial);have hsz:c.base.objs.size<=h'.objs.size:=by
  have h1:=CB (X.res _ _ hm).1;have h2:=BR ht;exact Hs h2 h1
 have S':=X.noted hls (λb o e q=>n1 b o (hideAll_get _ e q)) n4 hsz;obtain⟨oe,vs,T,oT,ts,h1,⟨h2,h3⟩,h4,h5,h6,h7,h8,h9,h10⟩:=n3;have out:∀b o,h.get? b=some o->b∉ls->b≠T:=λb o e q z=>by
  have:=hideAll_get ls e q;rw[z,h6]at this;trivial
 refine⟨S',re,he,be,.traced h1 h2 h4 h3 h5 h7 ?_ ?_ ?_ h8 h9 h10 hfl,kn⟩
 ·cases q:R T with
  |none=>rfl
  |some r=>
   exfalso
   refine e11 ((X.res _ _ q).2.there) λob hob=>?_;by_cases z:T∈ls
   ·rcases hls T z with⟨m',q'⟩|⟨q',_⟩
    ·refine e33 ((S'.res _ _ q').2) λo' es' ep' ho' hd' _=>?_;rw[h8]at ho';cases ho';rw[h9]at hd';cases hd'
    ·rw[q]at q';trivial
   ·exact out T ob hob z rfl
 ·cases q:H T with
  |none=>rfl
  |some r=>
   exfalso
   refine e11 X.rep λD s4=>e11 ((s4.rep _ _ q).there) λob hob=>?_;by_cases z:T∈ls
   ·rcases hls T z with⟨m',q'⟩|⟨_,q',_⟩
    ·have:=(s4.above _ _ q).2;rw[q']at this;trivial
    ·rw[q]at q';trivial
   ·exact out T ob hob z rfl
 ·cases q:c.base.get? T with
  |none=>rfl
  |some ob=>
   exfalso
   by_cases z:T∈ls
   ·rcases hls T z with⟨m',q'⟩|⟨_,_,q',_⟩
    ·have:=CB (X.res _ _ q').1;have:=BR q;omega
    ·rw[q]at q';trivial
   ·exact out T ob (X.stays _ _ q) z rfl
set_option tactic.hygienic true in
theorem OF(hfr:A.frames=some (env::outer))(hs:Dx R (env::outer))
  (X:ExcSt1 c R H e cl fl s.heap)(hfl:DU env fl)(q:∀h',ExcSt1 c R H e cl (rawInt env.locals) h'->Q () {s with heap:=h'}):wpAny M A (noteFrame (.ref e) env) Q E s:=by
 obtain⟨st,re,he,be,ob,kn⟩:=X;have F:=hs env (.head _);cases ob with
 |fresh h1=>
  have hls:∀a∈e::(env::outer).map (·.locals),(∃m,R a=some (.ns m))\/(R a=none/\H a=none/\c.base.get? a=none/\∃o vs,s.heap.get? a=some o/\o.data = .fields vs):=by
   intro a ha;rcases mem_cons.mp ha with rfl|ha
   ·exact .inr ⟨re,he,be,_,_,h1,rfl⟩
   ·refine e12 (mem_map.mp ha) λx hx z12=>?_;obtain rfl:=z12;exact .inl (hs x hx).ns
  unfold noteFrame;simp only[F.frame];exact wpAny_bind (wpAny_field h1 rfl (x:=.none) rfl (rl (if_neg (by decide)) (wpAny_entryW (base:=hideAll s.heap (e::(env::outer).map (·.locals))) (a0:=_) hfr (st.frames hs λx hx=>hideAll_none _ (mem_cons_of_mem _ (mem_map_of_mem hx))) F.frame h1 (λb o z=>of_hideAll _ z) (hideAll_none _ (mem_cons_self ..)) rfl (by simp) rfl λh' N=>q h' (OE st re he be hs hls N (by simp[rawInt]) kn))))
 |traced h1 h2 h3 h4 h5 h6 h7 h8 h9 h10 h11 h12 h13=>
  rename_i oe vs T oT ts a0;rcases hfl with rfl|rfl|rfl
  ·exact absurd rfl h13
  ·have hls:∀a∈e::T::(env::outer).map (·.locals),(∃m,R a=some (.ns m))\/(R a=none/\H a=none/\c.base.get? a=none/\∃o vs,s.heap.get? a=some o/\o.data = .fields vs):=by
    intro a ha;rcases mem_cons.mp ha with rfl|ha
    ·exact .inr ⟨re,he,be,_,_,h1,h3⟩
    ·rcases mem_cons.mp ha with rfl|ha
     ·exact .inr ⟨h7,h8,h9,_,_,h10,h11⟩
     ·refine e12 (mem_map.mp ha) λx hx z22=>?_;obtain rfl:=z22;exact .inl (hs x hx).ns
   refine wpAny_noteFrame_onW (base:=hideAll s.heap (e::T::(env::outer).map (·.locals))) (cls:=.ref (c.ca cl)) (a0:=a0) hfr (st.frames hs λx hx=>hideAll_none _ (mem_cons_of_mem _ (mem_cons_of_mem _ (mem_map_of_mem hx)))) F.frame
    ⟨oe,vs,T,oT,ts,h1,⟨h2,h4⟩,h3,h5,hideAll_none _ (mem_cons_of_mem _ (mem_cons_self ..)),h6,h10,h11,h12⟩ (λb o z=>of_hideAll _ z) (hideAll_none _ (mem_cons_self ..)) λh' N=>q h' ?_
   exact OE st re he be hs hls N (by simp[rawInt]) kn
  ·refine wpAny_noteFrame_againW (base:=hideAll s.heap [T]) (cls:=.ref (c.ca cl)) (a0:=a0) F.frame ⟨oe,vs,T,oT,ts,h1,⟨h2,h4⟩,h3,h5,hideAll_none _ (mem_cons_self ..),h6,h10,h11,h12⟩ ?_;have:=q s.heap ⟨st,re,he,be,.traced h1 h2 h3 h4 h5 h6 h7 h8 h9 h10 h11 h12 h13,kn⟩;exact this
set_option tactic.hygienic true in
theorem Om{M}{Q}
  (X:ExcSt1 c R H e cl fl s.heap)(hfl:fl≠.ellipsis)(q:∀h',ExcSt1 c R H e cl (f.elim .none λf=>rawInt f) h'->Q () {s with heap:=h'}):wpAny M A (setFlight (.ref e) f) Q E s:=by
 obtain⟨st,re,he,be,ob,kn⟩:=X;cases ob with
 |fresh h1=>exact absurd rfl hfl
 |traced h1 h2 h3 h4 h5 h6 h7 h8 h9 h10 h11 h12 h13=>
  rename_i oe vs T oT ts a0;have hsz3:3<ts.size:=(Array.getElem?_eq_some_iff.mp h12).1;have other:∀b,b≠T->(s.heap.update T (Obj.mapFields (·.setIfInBounds 3 (f.elim Value.none λf=>rawInt f)))).get? b=s.heap.get? b:=
   λb hb=>Heap.get?_update_other _ _ (Ne.symm hb)
  unfold setFlight;refine wpAny_bind (wpAny_field h1 h3 h5 (rl (if_pos (show(Value.ref T != Value.none)=true from by simp)) (wpAny_setField h10 h11 hsz3 (q _ ⟨?_,re,he,be,?_,kn⟩))))
  ·refine st.noted (ls:=[T]) (λa ha=>.inr ?_) (λb o hb hn=>(other b (by simpa using hn)).trans hb) (λb o hb hn=>⟨o.slots,(other b (λz=>?_)).trans hb⟩) ?_
   ·simp only[mem_singleton]at ha;subst ha;exact⟨h7,h8,h9,_,_,h10,h11⟩
   ·rw[z,h10]at hb;obtain rfl:=Ak hb;exact hn _ h11
   ·exact rl (Heap.size_update ..) st.size
  ·exact .traced ((other e (Ne.symm h6)).trans h1) h2 h3 h4 h5 h6 h7 h8 h9 (Heap.get?_update_self _ h10 (Obj.isFreed_of_fields (Obj.data_mapFields h11 _))) (Obj.data_mapFields h11 _) (by simp[hsz3]) (by cases f<;>simp[rawInt])
theorem Ug(hfr:A.frames=some (env::outer))(hs:Dx R (env::outer))
  (X:ExcSt1 c R H e cl fl s.heap)(hfl:DU env fl)(q:∀h',ExcSt1 c R H e cl .none h'->Q () {s with heap:=h'}):wpAny M A (leaving env (.ref e)) Q E s:=by
 unfold leaving;exact wpAny_bind (OF hfr hs X hfl λh₁ X1=>Om (s:={s with heap:=h₁}) X1 (by simp[rawInt]) λh₂ X2=>q h₂ X2)
theorem PK(hfr:A.frames=some (env::outer))(hs:Dx R (env::outer))
  (X:ExcSt c R H e cl fl s.heap)(hfl:DU env fl)(q:∀h',ExcSt c R H e cl (rawInt env.locals) h'->Q () {s with heap:=h'}):wpAny M A (noteFrame (.ref e) env) Q E s:=
 let ⟨H₁,X,r⟩:=X;OF hfr hs X hfl λh' X'=>q h' ⟨H₁,X',r⟩
theorem Ly{Q}
  (X:ExcSt c R H e cl fl s.heap)(hfl:fl≠.ellipsis)(q:∀h',ExcSt c R H e cl (f.elim .none λf=>rawInt f) h'->Q () {s with heap:=h'}):wpAny M A (setFlight (.ref e) f) Q E s:=
 let ⟨H₁,X,r⟩:=X;Om X hfl λh' X'=>q h' ⟨H₁,X',r⟩
theorem UU(hfr:A.frames=some (env::outer))(hs:Dx R (env::outer))
  (X:ExcSt c R H e cl fl s.heap)(hfl:DU env fl)(q:∀h',ExcSt c R H e cl .none h'->Q () {s with heap:=h'}):wpAny M A (leaving env (.ref e)) Q E s:=
 let ⟨H₁,X,r⟩:=X;Ug hfr hs X hfl λh' X'=>q h' ⟨H₁,X',r⟩
theorem ExcSt.st(X:ExcSt c R H e cl fl h):St c R H h:=let ⟨H₁,X,r⟩:=X;⟨H₁,X.st,r⟩
theorem ExcSt.kn(X:ExcSt c R H e cl fl h):(c.P.excs.lookup cl).isSome=true:=let ⟨_,X,_⟩:=X;X.kn
noncomputable def BQ(R:RR)(a:Addr):RR:=λb=>if b=a then none else R b
theorem GC:∀b r,BQ R a b=some r->R b=some r:=λb r e=>by
 unfold BQ at e;split at e
 ·trivial
 ·exact e
theorem CQ(h:b≠a):BQ R a b=R b:=by simp[BQ,h]
theorem E_:BQ R a a=none:=by simp[BQ]
def ItObj(H:Ac)(v:AV)(k:Nat)(o:Obj):Prop:=
 match v with
 | .ref a=>(match H a with
  |some (.list _)=>o.cls = .type "list_iterator"/\o.data = .fields #[.ref a,.int k 0]
  |some (.tuple _)=>o.cls = .type "tuple_iterator"/\o.data = .fields #[.ref a,.int k 0]
  |some (.range lo hi)=>o= {cls:=.type "range_iterator",dict:=none,data:=.fields #[rawInt (lo+k),rawInt (((hi - lo).toNat:Int) - k),rawInt 1],slots:=#[]}
  |some (.dict ep es)=>o.cls = .type "dict_keyiterator"/\o.data = .fields #[.ref a,.int k 0,.int es.length 0,.int ep 0]
  |_=>False)
 | .str s=>∃t,(o.cls = .type "str_ascii_iterator"\/o.cls = .type "str_iterator")/\o.data = .fields #[.str s t,.int k 0]
 |_=>False
theorem ItObj.same(h:ItObj H v k o)(e:DM H H' v):ItObj H' v k o:=by
 cases v with
 |ref a=>dsimp only[DM]at e;unfold ItObj at h⊢;dsimp only at h⊢;rw[e];exact h
 |str s=>exact h
 |_=>exact h
theorem PX:Builtin.Range.rangeSize a b 1=((b - a).toNat:Int):=by
 unfold Builtin.Range.rangeSize;simp only[Int.ediv_one,show(1:Int) > 0 from by decide,if_true];split<;>omega
theorem Ve(h:EZ a b):Builtin.Range.small a b 1=true:=by
 unfold Builtin.Range.small Builtin.Range.rangeFitsLong;refine rl PX<|EU h λh1 h2 h3 h4=>?_;simp only[show(1:Int) > 0 from by decide,if_true,Bool.and_eq_true,Bool.or_eq_true,decide_eq_true_eq,beq_iff_eq];refine⟨⟨⟨⟨⟨?_,?_⟩,⟨?_,?_⟩⟩,⟨?_,?_⟩⟩,⟨?_,?_⟩⟩,.inr ⟨?_,?_⟩⟩<;>omega
theorem GJ{o:Obj}{Q:Value->Shared->Prop}(hnf:o.isFreed=false)(S:St c R H s.heap)(q:∀s' a,R a=none->H a=none->St c (AY R a (.obj o)) H s'.heap->Sm s s'->Q (.ref a) s'):Q (.ref s.heap.objs.size) {s with heap:=s.heap.push o}:=by
 obtain⟨h1,h2,h3⟩:=S.newRes (x:=s.heap.objs.size) (r:=.obj o) (h':=s.heap.push o) (le_refl _) (λ_ _ z=>Heap.get?_push_of_some _ z) (by refine rl (Heap.size_push ..) ?_;exact Dw) (Heap.get?_push_size _ hnf);exact q _ _ h1 h2 h3 ⟨_,_,rfl⟩
theorem MA{mg mb:Str->Option Value}{v:AV}(C:c.Ok mg mb)(hv:VR v u)(S:St c R H s.heap)(hx:B6 H v=some xs)
  (q:∀s' a o,R a=none->H a=none->ItObj H v 0 o->St c (AY R a (.obj o)) H s'.heap->Sm s s'->Q (.ref a) s'):wpAny (model c.prog c.w) A (pyIter u) Q E s:=by
 cases hv with
 |ref a=>
  obtain⟨oo,e⟩:∃oo,H a=oo:=⟨_,rfl⟩
  unfold B6 at hx;dsimp only at hx;rw[e]at hx;cases oo with
  |none=>exact nomatch hx
  |some oo=>
  cases oo with
  |list ys=>
   exact e23 (Cj (g:=⟨c,0,true⟩) S e) λvs n k1 k2 k3=>wpAny_pyIter_list k3 (GJ rfl S λs' b h1 h2 h3 h4=>q s' b _ h1 h2 (by unfold ItObj;dsimp only;rw[e];exact⟨rfl,rfl⟩) h3 h4)
  |tuple ys=>
   exact e23 (Ed (g:=⟨c,0,true⟩) S e) λvs n k1 k2 k3=>wpAny_pyIter_tuple ⟨_,k1,rfl,_,rfl⟩ (GJ rfl S λs' b h1 h2 h3 h4=>q s' b _ h1 h2 (by unfold ItObj;dsimp only;rw[e];exact⟨rfl,rfl⟩) h3 h4)
  |range lo hi=>
   obtain⟨⟨D,rg,t,u,w,hr⟩,_⟩:=S.orep e;exact wpAny_pyIter_range hr (Ve rg) (GJ rfl S λs' b h1 h2 h3 h4=>q s' b _ h1 h2 (by unfold ItObj;dsimp only;rw[e];simp[PX]) h3 h4)
  |dict ep es=>
   refine e12 (DG (g:=⟨c,0,true⟩) S e) λkvs hd hr=>?_;have hl:=hr.length;refine wpAny_pyIter_dict (I8 (g:=⟨c,0,true⟩) C S e) hd (GJ rfl S λs' b h1 h2 h3 h4=>q s' b _ h1 h2 ?_ h3 h4);unfold ItObj;dsimp only;rw[e];exact⟨rfl,by rw[hl];rfl⟩
  |_=>exact nomatch hx
 |str x t=>
  cases ha:x.cps.all (· < 128)
  ·exact wpAny_pyIter_wide ha (GJ rfl S λs' b h1 h2 h3 h4=>q s' b _ h1 h2 ⟨t,.inr rfl,rfl⟩ h3 h4)
  ·exact wpAny_pyIter_ascii ha (GJ rfl S λs' b h1 h2 h3 h4=>q s' b _ h1 h2 ⟨t,.inl rfl,rfl⟩ h3 h4)
 |none=>cases hx
 |bool b=>cases hx
 |int i t=>trivial
theorem WJ{x:Str}{i ch:Nat}(h:PyData.strOk x=true)(e:x.cps[i]? =some ch):PyData.strOk ⟨#[ch]⟩=true:=
 LR (l:=[ch]) (by intro c hc;simp at hc;subst hc;exact LB h (Array.mem_of_getElem? e))
theorem DRs.get(h:DRs es kvs):∀{k:Nat} {n:Str} {a:AV},es[k]? =some (n,a)->PyData.strOk n=true/\∃v,kvs[k]? =some (n,v):=by
 induction h with
 |nil=>intro k n a e;simp at e
 |cons h1 h2 _ ih=>
  intro k n a e;cases k with
  |zero=>simp at e;obtain⟨rfl,rfl⟩:=e;exact⟨h1,_,rfl⟩
  |succ k=>simp at e⊢;exact ih e
theorem Mm(hx:B6 H v=some xs)(hk:xs[k]? =some x)(hi:ItObj H v k o)(hr:R a=some (.obj o))(S:St c R H s.heap)
  (hsv:∀y,v = .str y->PyData.strOk y=true)
  (q:∀s' u o',VR x u->ItObj H v (k+1) o'->St c (AY R a (.obj o')) H s'.heap->Sm s s'->Q (some u) s'):wpAny (model c.prog c.w) A (pyNext (.ref a)) Q E s:=by
 have ho:s.heap.get? a=some o:=(S.res _ _ hr).2;cases v with
 |ref p=>
  obtain⟨oo,e⟩:∃oo,H p=oo:=⟨_,rfl⟩
  unfold B6 at hx;dsimp only at hx;rw[e]at hx;cases oo with
  |none=>exact nomatch hx
  |some oo=>
  cases oo with
  |list ys=>
   obtain rfl:=Ak hx;refine e23 (Cj (g:=⟨c,0,true⟩) S e) λvs n k1 k2 k3=>e12 (k2.get hk) λw hw hvr=>?_;unfold ItObj at hi;dsimp only at hi;rw[e]at hi;exact wpAny_pyNext_list_item ⟨o,ho,hi.1,hi.2⟩ k3 (by simpa using hw) λh' ⟨o',p1,p2,p3⟩ hs=>q _ w o' hvr (by unfold ItObj;dsimp only;rw[e];exact⟨p2,p3⟩) (S.setRes hr hs p1) ⟨_,_,rfl⟩
  |tuple ys=>
   obtain rfl:=Ak hx;refine e23 (Ed (g:=⟨c,0,true⟩) S e) λvs n k1 k2 k3=>e12 (k2.get hk) λw hw hvr=>?_;unfold ItObj at hi;dsimp only at hi;rw[e]at hi;exact wpAny_pyNext_tuple_item (items:=vs.toArray) ⟨o,ho,hi.1,hi.2⟩ ⟨_,k1,rfl,_,rfl⟩ (by simpa using hw) λh' ⟨o',p1,p2,p3⟩ hs=>q _ w o' hvr (by unfold ItObj;dsimp only;rw[e];exact⟨p2,p3⟩) (S.setRes hr hs p1) ⟨_,_,rfl⟩
  |range lo hi'=>
   obtain rfl:=Ak hx;unfold ItObj at hi;dsimp only at hi;rw[e]at hi;subst hi;have hlt:k<(hi' - lo).toNat:=by
    have:=(AJ hk).1;simpa using this
   have hxe:x = .int (lo+k):=by
    rw[getElem?_map,List.getElem?_range hlt]at hk;simpa using hk.symm
   subst hxe;refine wpAny_pyNext_range_item (x:=lo+k) (left:=((hi' - lo).toNat:Int) - k) (step:=1) ho (by omega) λh' p1 hs=>q _ _ _ (.int _ _) ?_ (S.setRes (r':=.obj _) hr hs p1) ⟨_,_,rfl⟩;unfold ItObj;dsimp only;rw[e];have e1:lo+(k:Int)+1=lo+((k+1:Nat):Int):=Hq
   have e2:((hi' - lo).toNat:Int) - k - 1=((hi' - lo).toNat:Int) - ((k+1:Nat):Int):=Le
   exact rl e1 (rl e2 rfl)
  |dict ep es=>
   obtain rfl:=Ak hx;refine e12 (DG (g:=⟨c,0,true⟩) S e) λkvs hd hr'=>?_;have hl:=hr'.length;unfold ItObj at hi;dsimp only at hi;rw[e]at hi;rw[getElem?_map,map_eq_some_iff]at hk;obtain⟨⟨kk,av⟩,hk1,hk2⟩:=hk;obtain⟨hso,vv,hkv⟩:=hr'.get hk1;subst hk2;refine wpAny_pyNext_dict_item (k:=kk) (v:=vv) ⟨o,ho,hi.1,by rw[hl];exact hi.2⟩ hd hkv λkey h' hkey ⟨o',p1,p2,p3⟩ hs=>?_;obtain⟨t,rfl⟩:=NZ hkey;exact q _ _ o' (.str _ _ hso) (by unfold ItObj;dsimp only;exact rl e ⟨p2,by rw[<-hl];exact p3⟩) (S.setRes hr hs p1) ⟨_,_,rfl⟩
  |_=>exact nomatch hx
 |str y=>
  obtain rfl:=Ak hx;rw[getElem?_map,map_eq_some_iff]at hk;obtain⟨ch,hk1,rfl⟩:=hk;have hch:y.cps[k]? =some ch:=by rw[<-Array.getElem?_toList];exact hk1
  refine e12 hi λt hc hd=>?_;have hok:=WJ (hsv y rfl) hch;rcases hc with hc|hc
  ·exact wpAny_pyNext_ascii_item ⟨o,ho,hc,hd⟩ hch λh' ⟨o',p1,p2,p3⟩ hs=>q _ _ o' (.str _ _ hok) ⟨t,.inl p2,p3⟩ (S.setRes hr hs p1) ⟨_,_,rfl⟩
  ·exact wpAny_pyNext_wide_item ⟨o,ho,hc,hd⟩ hch λh' ⟨o',p1,p2,p3⟩ hs=>q _ _ o' (.str _ _ hok) ⟨t,.inr p2,p3⟩ (S.setRes hr hs p1) ⟨_,_,rfl⟩
 |none=>cases hx
 |bool b=>cases hx
 |int i=>trivial
theorem St1.dropAny(S:St1 c R H h)(hr:R a=some r₀)(k:Heap.ExtBut a h h')(hsz:c.base.objs.size<=h'.objs.size):St1 c (BQ R a) H h':=by
 obtain⟨s1,s2,s3,D,s4⟩:=S;have nn:∀b,R b=none->BQ R a b=none:=λb e=>by
  cases q:BQ R a b with
  |none=>rfl
  |some r=>rw[GC b r q]at e;trivial
 refine⟨λb o' e=>k b o' (λz=>?_) (s1 b o' e),hsz,λb r e=>⟨(s3 b r (GC b r e)).1,(s3 b r (GC b r e)).2.agree λob z=>k b ob (λw=>?_) z⟩,D,⟨λb ao e=>?_,λb ao e=>⟨(s4.above b ao e).1,nn _ (s4.above b ao e).2⟩,λb cl es e=>?_,s4.inj⟩⟩
 ·have:=CB (s3 a _ hr).1;have:=BR e;rw[z]at this;omega
 ·rw[w,E_]at e;trivial
 ·refine(s4.rep b ao e).agree (λob z=>k b ob (λw=>?_) z) λcl es eo=>⟨rfl,λob z=>k _ ob (λw=>?_) z⟩
  ·have:=(s4.above b ao e).2;rw[w,hr]at this;trivial
  ·subst eo;have:=(s4.dict b cl es e).2.1;rw[w,hr]at this;trivial
 ·exact Br (s4.dict b cl es e) λy1 y2 y3=>⟨y1,nn _ y2,y3⟩
theorem St.dropAny(S:St c R H h)(hr:R a=some r₀)(k:Heap.ExtBut a h h')(hsz:c.base.objs.size<=h'.objs.size):St c (BQ R a) H h':=let ⟨H₁,s,r⟩:=S;⟨H₁,s.dropAny hr k hsz,r⟩
theorem M2(hh:A.handled=none)(hx:B6 H v=some xs)(hk:xs[k]? =none)(hi:ItObj H v k o)(hr:R a=some (.obj o))(hL:R L=some (.ns m))(S:St c R H s.heap)
  (q:∀s',St c (BQ R a) H s'.heap->Sm s s'->Q none s'):wpAny (model c.prog c.w) A (pyNext (.ref a)) Q E s:=by
 have ho:s.heap.get? a=some o:=(S.res _ _ hr).2;have fin:∀h',Heap.ExtBut a s.heap h'->Q none {s with heap:=h'}:=λh' k=>by
  refine q _ (S.dropAny hr k (e32 ((S.res _ _ hL).2) λoL es ep w _=>?_)) ⟨_,_,rfl⟩;have h1:=CB (S.res _ _ hL).1;have h2:=BR (k L oL (λz=>by rw[z,hr]at hL;cases hL) w);exact le_of_lt (lt_of_le_of_lt h1 h2)
 cases v with
 |ref p=>
  obtain⟨oo,e⟩:∃oo,H p=oo:=⟨_,rfl⟩
  unfold B6 at hx;dsimp only at hx;rw[e]at hx;cases oo with
  |none=>exact nomatch hx
  |some oo=>
  cases oo with
  |list ys=>
   obtain rfl:=Ak hx;refine e23 (Cj (g:=⟨c,0,true⟩) S e) λvs n k1 k2 k3=>?_;unfold ItObj at hi;dsimp only at hi;rw[e]at hi;refine wpAny_pyNext_list_end hh ⟨o,ho,hi.1,hi.2⟩ k3 ?_ fin;have:=k2.length;simp at hk⊢;exact HH this hk
  |tuple ys=>
   obtain rfl:=Ak hx;refine e23 (Ed (g:=⟨c,0,true⟩) S e) λvs n k1 k2 k3=>?_;unfold ItObj at hi;dsimp only at hi;rw[e]at hi;refine wpAny_pyNext_tuple_end (items:=vs.toArray) hh ⟨o,ho,hi.1,hi.2⟩ ⟨_,k1,rfl,_,rfl⟩ ?_ fin;have:=k2.length;simp at hk⊢;exact HH this hk
  |range lo hi'=>
   obtain rfl:=Ak hx;unfold ItObj at hi;dsimp only at hi;rw[e]at hi;subst hi;have hlt:(hi' - lo).toNat<=k:=by simpa using hk
   exact wpAny_pyNext_range_end (x:=lo+k) (left:=((hi' - lo).toNat:Int) - k) (step:=1) hh ho (by omega) fin
  |dict ep es=>
   obtain rfl:=Ak hx;refine e12 (DG (g:=⟨c,0,true⟩) S e) λkvs hd hr'=>?_;have hl:=hr'.length;unfold ItObj at hi;dsimp only at hi;rw[e]at hi;refine wpAny_pyNext_dict_end hh ⟨o,ho,hi.1,by exact rl hl hi.2⟩ hd ?_ fin;simp at hk⊢;exact le_of_eq_of_le hl hk
  |_=>exact nomatch hx
 |str y=>
  obtain rfl:=Ak hx;have hch:y.cps[k]? =none:=by refine rl (Eq.symm (Array.getElem?_toList)) ?_;simpa using hk
  refine e12 hi λt hc hd=>?_;rcases hc with hc|hc
  ·exact wpAny_pyNext_ascii_end hh ⟨o,ho,hc,hd⟩ hch fin
  ·exact wpAny_pyNext_wide_end hh ⟨o,ho,hc,hd⟩ hch fin
 |none=>cases hx
 |bool b=>cases hx
 |int i=>trivial
def RStep(env:Env)(R R':RR):Prop:=∀b,R' b=R b\/(b=env.locals/\∃m m',R b=some (.ns m)/\R' b=some (.ns m'))\/((∃n,env.cells.lookup n=some b)/\∃x x',R b=some (.cell x)/\R' b=some (.cell x'))
theorem RStep.refl:RStep env R R:=λ_=>.inl rfl
theorem RStep.trans(x:RStep env R R')(y:RStep env R' R''):RStep env R R'':=λb=>by
 rcases x b with h|⟨h1,m,m',h2,h3⟩|⟨h1,m,m',h2,h3⟩
 ·rcases y b with k|⟨k1,m,m',k2,k3⟩|⟨k1,m,m',k2,k3⟩
  ·exact .inl (k.trans h)
  ·exact .inr (.inl ⟨k1,m,m',by refine rl h.symm ?_;exact k2,k3⟩)
  ·exact .inr (.inr ⟨k1,m,m',by refine rl h.symm ?_;exact k2,k3⟩)
 ·rcases y b with k|⟨k1,n,n',k2,k3⟩|⟨k1,n,n',k2,k3⟩
  ·exact .inr (.inl ⟨h1,m,m',h2,by exact rl k h3⟩)
  ·exact .inr (.inl ⟨h1,m,n',h2,k3⟩)
  ·rw[h3]at k2;cases k2
 ·rcases y b with k|⟨k1,n,n',k2,k3⟩|⟨k1,n,n',k2,k3⟩
  ·exact .inr (.inr ⟨h1,m,m',h2,by exact rl k h3⟩)
  ·rw[h3]at k2;cases k2
  ·exact .inr (.inr ⟨h1,m,n',h2,k3⟩)
theorem RStep.ns(x:RStep env R R'){m}(h:R a=some (.ns m)):∃m',R' a=some (.ns m'):=by
 rcases x a with k|⟨_,_,m',_,k⟩|⟨_,_,_,k,_⟩
 ·exact⟨m,k.trans h⟩
 ·exact⟨m',k⟩
 ·rw[h]at k;cases k
theorem RStep.obj(x:RStep env R R'){o}(h:R a=some (.obj o)):R' a=some (.obj o):=by
 rcases x a with k|⟨_,_,m',k,_⟩|⟨_,_,_,k,_⟩
 ·exact k.trans h
 ·rw[h]at k;cases k
 ·rw[h]at k;cases k
theorem RStep.stk(x:RStep env R R')(h:Dx R l):Dx R' l:=λe he=>
 let F:=h e he
 ⟨F.kind,F.frame,F.gen,F.co,F.blt,F.glob,let ⟨_,hm⟩:=F.ns;x.ns hm⟩
theorem Ev.step(x:RStep env R R')(h:Ev g A R e l):Ev g A R' e l:=⟨h.aok,x.stk h.stk⟩
theorem Frm.congr(fr:Frm R env sc nm V)(h:∀b,(∃m,R b=some (.ns m))\/(∃x,R b=some (.cell x))->R' b=R b):Frm R' env sc nm V:=by
 obtain⟨k1,k2,k3,k4,k5,k6,k7,kc,kl,k8,⟨m,n1,n2⟩,k9⟩:=fr;exact⟨k1,k2,k3,k4,k5,k6,k7,kc,kl,k8,⟨m,(h _ (.inl ⟨m,n1⟩)).trans n1,n2⟩,λi n hn hk=>e33 (k9 i n hn hk) λa x v c1 c2 c3=>⟨a,x,v,c1,(h _ (.inr ⟨x,c2⟩)).trans c2,c3⟩⟩
theorem Frm.local'(fr:Frm R env sc nm V)(nd:nm.Nodup){i:Nat}{id:Str}{x:Option AV}{w:Option Value}{m:Str->Option Value}(hi:nm[i]? =some id)(hl:env.kindOf id=some .local)(hm:R env.locals=some (.ns m))(hv:FX x w) :
  Frm (AY R env.locals (.ns λy=>if y=id then w else m y)) env sc nm (V.set i x):=by
 obtain⟨k1,k2,k3,k4,k5,k6,k7,kc,kl,k8,⟨m',n1,n2⟩,k9⟩:=fr;rw[hm]at n1;cases n1;have hnd:∀{j:Nat} {n:Str},nm[j]? =some n->(n=id↔j=i):=λ{j n} hj=>by
  constructor
  ·rintro rfl;have h1:=AJ hj;have h2:=AJ hi;exact(List.getElem_inj nd).mp (h1.2.trans h2.2.symm)
  ·rintro rfl;rw[hi]at hj;obtain rfl:=Ak hj;rfl
 refine⟨k1,k2,k3,k4,k5,k6,k7,kc,by refine rl length_set ?_;exact kl,k8,⟨_,Be,λj n hj hk=>?_⟩,λj n hj hk=>?_⟩
 ·refine e12 (n2 j n hj hk) λv v1 v2=>?_;by_cases q:n=id
  ·have:=(hnd hj).mp q;subst q this;have hlt:=(AJ v1).1;exact⟨x,by simp[hlt],by simpa using hv⟩
  ·have hne:j≠i:=λz=>q ((hnd hj).mpr z);exact⟨v,by refine rl (getElem?_set_ne (Ne.symm hne)) ?_;exact v1,by simp only[q,if_false];exact v2⟩
 ·refine e34 (k9 j n hj hk) λa y v c1 c2 c3 c4=>?_;have hna:a≠env.locals:=λz=>by rw[z,hm]at c2;cases c2
  have hne:j≠i:=λz=>by
   have:=(hnd hj).mpr z;subst this;rw[hl]at hk;rcases hk with hk|hk<;>trivial
  exact⟨a,y,v,c1,by refine rl (AK hna) ?_;exact c2,by refine rl (getElem?_set_ne (Ne.symm hne)) ?_;exact c3,c4⟩
theorem Frm.cell'(fr:Frm R env sc nm V)(nd:nm.Nodup){i:Nat}{id:Str}{a:Addr}{x:Option AV}{w y:Option Value}(hi:nm[i]? =some id)(hl:env.kindOf id=some .cell)(ha:env.cells.lookup id=some a)(hr:R a=some (.cell y))(hv:FX x w) :
  Frm (AY R a (.cell w)) env sc nm (V.set i x):=by
 obtain⟨k1,k2,k3,k4,k5,k6,k7,kc,kl,k8,⟨m',n1,n2⟩,k9⟩:=fr;have hnd:∀{j:Nat} {n:Str},nm[j]? =some n->(n=id↔j=i):=λ{j n} hj=>by
  constructor
  ·rintro rfl;have h1:=AJ hj;have h2:=AJ hi;exact(List.getElem_inj nd).mp (h1.2.trans h2.2.symm)
  ·rintro rfl;rw[hi]at hj;obtain rfl:=Ak hj;rfl
 have hna:env.locals≠a:=λz=>by rw[z,hr]at n1;cases n1
 refine⟨k1,k2,k3,k4,k5,k6,k7,kc,by refine rl length_set ?_;exact kl,k8,⟨m',by refine rl (AK hna) ?_;exact n1,λj n hj hk=>?_⟩,λj n hj hk=>?_⟩
 ·refine e12 (n2 j n hj hk) λv v1 v2=>?_;have hne:j≠i:=λz=>by
   have:=(hnd hj).mpr z;subst this;rw[hl]at hk;trivial
  exact⟨v,by refine rl (getElem?_set_ne (Ne.symm hne)) ?_;exact v1,v2⟩
 ·refine e34 (k9 j n hj hk) λb z v c1 c2 c3 c4=>?_;by_cases q:n=id
  ·have:=(hnd hj).mp q;subst q this;rw[ha]at c1;obtain rfl:=Ak c1;have hlt:=(AJ c3).1;exact⟨a,w,x,ha,Be,by simp[hlt],hv⟩
  ·have hne:j≠i:=λz=>q ((hnd hj).mpr z);have hab:b≠a:=λz=>q (k8 n id a (by exact rl z.symm c1) ha);exact⟨b,z,v,c1,by refine rl (AK hab) ?_;exact c2,by refine rl (getElem?_set_ne (Ne.symm hne)) ?_;exact c3,c4⟩
theorem GH{M:Model}{A:Around}{E:Value->Shared->Prop}{s}{i}{id}{x}{u}{Q}(fr:Frm R env sc nm V)(nd:nm.Nodup)(hi:nm[i]? =some id)(hk:EI sc id=true)(hv:VR x u)
  (S:St c R H s.heap)(q:∀s' R',RStep env R R'->Frm R' env sc nm (V.set i (some x))->St c R' H s'.heap->Sm s s'->Q () s'):wpAny M A (storeName env id u) Q E s:=by
 refine e12 fr.ns λm hm _=>?_;rcases fr.lok id hk with hl|hl
 ·refine wpAny_storeName_local hl (S.res _ _ hm).2 (λh' hn hs=>?_) (by refine rl fr.kind ?_;rfl);refine q _ _ (λb=>?_) (fr.local' nd hi hl hm (.some hv)) (S.setRes (r':=.ns _) hm hs hn) ⟨_,_,rfl⟩;by_cases z:b=env.locals
  ·subst z;exact .inr (.inl ⟨rfl,_,_,hm,Be⟩)
  ·exact .inl (AK z)
 ·refine e34 (fr.cell i id hi (.inl hl)) λa y v c1 c2 c3 c4=>wpAny_storeName_cell fr.kind hl c1 (S.res _ _ c2).2 λh' hn hs=>q _ _ (λb=>?_) (fr.cell' nd hi hl c1 c2 (.some hv)) (S.setRes (r':=.cell _) c2 hs hn) ⟨_,_,rfl⟩;by_cases z:b=a
  ·subst z;exact .inr (.inr ⟨⟨_,c1⟩,_,_,c2,Be⟩)
  ·exact .inl (AK z)
theorem ExcSt1.weaken(X:ExcSt1 c R' H e cl fl h)(k:∀b r,R b=some r->R' b=some r):ExcSt1 c R H e cl fl h:=by
 obtain⟨st,re,he,be,ob,kn⟩:=X;have nn:∀a,R' a=none->R a=none:=λa e=>by
  cases q:R a with
  |none=>rfl
  |some r=>rw[k a r q]at e;trivial
 refine⟨st.weaken k,nn _ re,he,be,?_,kn⟩;cases ob with
 |fresh h1=>exact .fresh h1
 |traced h1 h2 h3 h4 h5 h6 h7 h8 h9 h10 h11 h12 h13=>exact .traced h1 h2 h3 h4 h5 h6 (nn _ h7) h8 h9 h10 h11 h12 h13
theorem ExcAt.obj(X:ExcAt c R H h e cls fl):∃o vs,h.get? e=some o/\o.cls=cls/\o.data = .fields vs:=by
 cases X with
 |fresh h1=>exact⟨_,_,h1,rfl,rfl⟩
 |traced h1 h2 h3=>exact⟨_,_,h1,h2,h3⟩
theorem ExcSt.weaken(X:ExcSt c R' H e cl fl h)(k:∀b r,R b=some r->R' b=some r):ExcSt c R H e cl fl h:=let ⟨H₁,X,r⟩:=X;⟨H₁,X.weaken k,r⟩
theorem ExcSt.obj(X:ExcSt c R H e cl fl h):∃o vs,h.get? e=some o/\o.cls = .ref (c.ca cl)/\o.data = .fields vs:=let ⟨_,X,_⟩:=X;X.ob.obj
inductive No(c:Cx)(env:Env)(sc:Scope)(nm:List Str)(R:RR)(s₀:Shared)(QN:VV->Ac->Prop)(s':Shared):Prop
 |mk (R':RR) (V':VV) (H':Ac) (r:RStep env R R') (f:Frm R' env sc nm V') (S:St c R' H' s'.heap) (m:Sm s₀ s') (q:QN V' H'):No c env sc nm R s₀ QN s'
inductive Np(c:Cx)(env:Env)(R:RR)(s₀:Shared)(QR:AV->Ac->Prop)(v:Value)(s':Shared):Prop
 |mk (R':RR) (av:AV) (H':Ac) (r:RStep env R R') (hv:VR av v) (S:St c R' H' s'.heap) (m:Sm s₀ s') (q:QR av H'):Np c env R s₀ QR v s'
inductive Nu(c:Cx)(env:Env)(sc:Scope)(nm:List Str)(R:RR)(s₀:Shared)(E:String->VV->Ac->Prop)(e:Value)(s':Shared):Prop
 |mk (a:Addr) (cl:String) (R':RR) (V':VV) (H':Ac) (fl:Value) (h:e = .ref a) (r:RStep env R R') (f:Frm R' env sc nm V') (k:DU env fl) (X:ExcSt c R' H' a cl fl s'.heap) (m:Sm s₀ s') (q:E cl V' H'):Nu c env sc nm R s₀ E e s'
def TF(g:Gx)(env:Env)(sc:Scope)(nm:List Str)(R:RR)(s₀:Shared)(QN:VV->Ac->Prop)(QR:AV->Ac->Prop)(f:Flow)(s':Shared):Prop:=
 match f with
 | .next=>No g.c env sc nm R s₀ QN s'
 | .ret v=>Np g.c env R s₀ QR v s'
 |_=>False
def TX(g:Gx)(env:Env)(sc:Scope)(nm:List Str)(R:RR)(s₀:Shared)(E:String->VV->Ac->Prop)(e:Value)(s':Shared):Prop:=
 Nu g.c env sc nm R s₀ E e s'
def AE(g:Gx)(sc:Scope)(nm:List Str)(w:Gx->(VV->Ac->Prop)->(AV->Ac->Prop)->(String->VV->Ac->Prop)->VV->Ac->Prop)(t:Env->Sem Flow):Prop:=
 ∀(md:Bool) (A:Around) (env:Env) (l₀:List Env) (R:RR) (V:VV) (s₀ s:Shared) (H:Ac) (QN:VV->Ac->Prop) (QR:AV->Ac->Prop) (E:String->VV->Ac->Prop),
  Ev {g with md:=md} A R env l₀->Frm R env sc nm V->St g.c R H s.heap->Sm s₀ s->w {g with md:=md} QN QR E V H->
  wpAny (model g.c.prog g.c.w) A (t env) (TF g env sc nm R s₀ QN QR) (TX g env sc nm R s₀ E) s
section
variable{c:Cx}{R:RR}{H:Ac}{A:Around}{E:Value->Shared->Prop}{s:Shared}
theorem Mg:AY (AY R a r) a r'=AY R a r':=by
 funext b
 by_cases q:b=a
 ·subst q;exact rl Be (rl Be rfl)
 ·exact rl (AK q) (rl (AK q) (rl (AK q) rfl))
theorem Ux(h:R a=none):BQ (AY R a r) a=R:=by
 funext b
 by_cases q:b=a
 ·subst q;exact rl E_ (rl h rfl)
 ·exact rl (CQ q) (rl (AK q) rfl)
theorem Qs(hx:B6 H (.ref p)=some xs):∀(n k:Nat) (s:Shared) (o:Obj) (Q:List Value->Shared->Prop),k+n<=xs.length->ItObj H (.ref p) k o->St c (AY R a (.obj o)) H s.heap->
  (∀s' o' vs,ItObj H (.ref p) (k+n) o'->VRs ((xs.drop k).take n) vs->St c (AY R a (.obj o')) H s'.heap->Sm s s'->Q vs s')->wpAny (model c.prog c.w) A (draw (.ref a) n) Q E s
 | 0,k,s,o,Q,_,hi,S,q=>wpAny_pure (q s o [] hi (rl take_zero .nil) S ⟨_,_,rfl⟩)
 |n+1,k,s,o,Q,hk,hi,S,q=>by
  have hlt:k<xs.length:=Nat.lt_of_add_right_lt hk
  show wpAny _ _ (pyNext (.ref a) >>= _) Q E s;refine wpAny_bind (Mm (x:=xs[k]) hx (by simp[hlt]) hi Be S (λy z=>by trivial) λs₁ u o₁ hu ho1 S₁ m₁=>?_);rw[Mg]at S₁;refine wpAny_bind (wpAny_holding (Qs hx n (k+1) s₁ o₁ _ (Lh hk) ho1 S₁ λs₂ o₂ vs ho2 hv S₂ m₂=>wpAny_pure (q s₂ o₂ (u::vs) (by refine rl (show k+(n+1)=k+1+n from HL) ?_;exact ho2) ?_ S₂ (m₁.trans m₂))));exact rl (List.drop_eq_getElem_cons hlt) (rl List.take_succ_cons (.cons hu hv))
theorem L9(C:c.Ok mg mb)(hh:A.handled=none)(hL:R L=some (.ns mL))(S:St c R H s.heap)(hx:H p=some (.tuple xs)\/H p=some (.list xs))
  (q:∀s' vs,VRs xs vs->St c R H s'.heap->Sm s s'->Q vs s'):wpAny (model c.prog c.w) A (unpackItems (.ref p) xs.length none) Q E s:=by
 have hit:B6 H (.ref p)=some xs:=by unfold B6;dsimp only;rcases hx with e|e<;>rw[e]
 unfold unpackItems;refine wpAny_bind ?_;have hno:wpAny (model c.prog c.w) A (notIterableAtAll (.ref p)) (λb s'=>b=false/\s'=s) E s:=by
  unfold notIterableAtAll;rcases hx with e|e
  ·refine e23 (Ed (g:=⟨c,0,true⟩) S e) λvs n k1 k2 k3=>wpAny_bind (wpAny_specialOf ⟨_,k1,rfl⟩ PySem.F.slot_tuple_iter.lookup (wpAny_pure ⟨rfl,rfl⟩))
  ·refine e23 (Cj (g:=⟨c,0,true⟩) S e) λvs n k1 k2 k3=>wpAny_bind (wpAny_specialOf ⟨_,k1,rfl⟩ PySem.slot_list_iter.lookup (wpAny_pure ⟨rfl,rfl⟩))
 refine wpAny_mono hno (λb s' z=>?_) λ_ _ z=>z;refine Ap z λz00 z01=>?_;obtain rfl:=z00;obtain rfl:=z01;dsimp only[Bool.false_eq_true,if_false];refine wpAny_bind (wpAny_holding (MA C (.ref p) S hit λs₁ a o ha hHa ho S₁ m₁=>wpAny_bind (wpAny_holding (Qs hit xs.length 0 s₁ o _ (HB) ho S₁ λs₂ o₂ vs ho2 hv S₂ m₂=>?_))));rw[drop_zero,take_length]at hv;refine rl (if_neg (by rw[<-hv.length];exact lt_irrefl _)) ?_;have hLa:L≠a:=λz=>by rw[z,ha]at hL;trivial
 refine wpAny_bind (wpAny_holding (M2 hh hit (by simp) ho2 Be (rl (AK hLa) hL) S₂ λs₃ S3 m₃=>?_));rw[Ux ha]at S3;dsimp only[Option.isSome_none,Bool.false_eq_true,if_false];exact wpAny_pure (q s₃ vs hv S3 ((m₁.trans m₂).trans m₃))
def Jr(e:Expr):Prop:=(∃id p,e = .Name id p)\/∃es k p,e = .Tuple es k p
theorem Ps(tk:Jr tg)(hi:ItObj H v k o)(ho:s.heap.get? a=some o)(q:Q () s):wpAny (model c.prog c.w) A (letOwnedTupleGo tg (.ref a) u) Q E s:=by
 have key:∀n vs,o.cls = .type n->o.data = .fields vs->["enumerate","zip","dict_itemiterator","dict_reverseitemiterator","odict_iterator","itertools.zip_longest","itertools.pairwise"].contains n=false->
   wpAny (model c.prog c.w) A (letOwnedTupleGo tg (.ref a) u) Q E s:=by
  intro n vs h1 h2 h3;rcases tk with⟨id,p,rfl⟩|⟨es,kk,p,rfl⟩
  ·exact wpAny_pure q
  ·cases u with
   |ref T=>
    unfold letOwnedTupleGo;refine wpAny_bind (wpAny_load ho (rl h1 (rl h2 ?_)));show wpAny _ A (if(["enumerate","zip","dict_itemiterator","dict_reverseitemiterator","odict_iterator","itertools.zip_longest","itertools.pairwise"].contains n&&vs[0]?==some (rawInt T))=true then _ else _) Q E s;exact rl (h3 ..) (rl (Bool.false_and ..) (rl (if_neg Bool.false_ne_true ..) (wpAny_pure q)))
   |_=>exact wpAny_pure q
 cases v with
 |ref p=>
  unfold ItObj at hi;dsimp only at hi;obtain⟨oo,e⟩:∃oo,H p=oo:=⟨_,rfl⟩
  rw[e]at hi;cases oo with
  |none=>exact hi.elim
  |some oo=>
  cases oo with
  |list ys=>exact key _ _ hi.1 hi.2 (by decide)
  |tuple ys=>exact key _ _ hi.1 hi.2 (by decide)
  |range lo hi'=>
   dsimp only at hi;subst hi;exact key _ _ rfl rfl (by decide)
  |dict ep es=>exact key _ _ hi.1 hi.2 (by decide)
  |_=>exact hi.elim
 |str y=>
  refine e12 hi λt hc hd=>?_;rcases hc with hc|hc
  ·exact key _ _ hc hd (by decide)
  ·exact key _ _ hc hd (by decide)
 |none=>exact hi.elim
 |bool b=>exact hi.elim
 |int i=>exact hi.elim
end
theorem Ot(h:Fd (e::r) ts=true):∃id p ts',e = .Name id p/\ts=id::ts'/\Fd r ts'=true:=
 Ef (m:=λts=>∃id p ts',e = .Name id p/\ts=id::ts'/\Fd r ts'=true) h λt q h=>
  Fa (m:=λe=>∃id p ts',e = .Name id p/\t::q=id::ts'/\Fd r ts'=true) (Aa h).1 λid p h1=>⟨id,p,q,rfl,by exact rl (eq_of_beq h1) rfl,(Aa h).2⟩
theorem S_:∀{ts:List Str},Fd es ts=true->(assignEach es env).length=ts.length/\(assignEach es env).findIdx? (·.1)=none:=by
 induction es with
 |nil=>intro ts h;exact CJ (m:=λts=>_=ts.length/\_) h ⟨rfl,rfl⟩
 |cons e r ih=>
  intro ts h;refine e33 (Ot h) λid p ts' z13 z14 h1=>?_;obtain rfl:=z13;obtain rfl:=z14;exact Ap (ih h1) λi1 i2=>⟨congrArg Nat.succ i1,by show List.findIdx? _ ((false,_)::assignEach r env)=none;refine rl (List.findIdx?_cons) (rl i2 ?_);rfl⟩
noncomputable def Co(env:Env):List (Str×NameKind)->List (Str×Addr)->List (Str×Addr)
 |[],acc=>acc
 |(n,k)::r,acc=>if k==.free then Co env r ((n,(env.cells.lookup n).getD 0)::acc) else Co env r acc
theorem JT:Co env ((n,k)::r) acc=if k==.free then Co env r ((n,(env.cells.lookup n).getD 0)::acc) else Co env r acc:=rfl
theorem XJ(f:Str×NameKind->List (Str×Addr)->Sem (ForInStep (List (Str×Addr))))(hf:∀n k cs,f (n,k) cs=if k==.free then(do let a <-cellOf env n;pure (.yield ((n,a)::cs))) else pure (.yield cs))
  (names:List (Str×NameKind))(acc:List (Str×Addr))(h:∀p∈names,p.2 = .free->∃a,env.cells.lookup p.1=some a):forIn names acc f=(pure (Co env names acc):Sem _):=by
 induction names generalizing acc with
 |nil=>refine rl forIn_nil ?_;rfl
 |cons nk r ih=>
  obtain⟨n,k⟩:=nk;refine rl (forIn_cons ..) (rl (hf ..) ?_);rw[JT];cases hk:k==NameKind.free with
  |true=>
   obtain⟨a,ha⟩:=h (n,k) (.head _) (by simpa using hk);simp only[if_true,cellOf,ha,getD_some];exact ih _ λp hp=>h p (.tail _ hp)
  |false=>
   simp only[Bool.false_eq_true,if_false];exact ih _ λp hp=>h p (.tail _ hp)
theorem Tk(h:∀p∈sc.names,p.2 = .free->∃a,env.cells.lookup p.1=some a):closureFor sc env=pure (Co env sc.names []):=by
 unfold closureFor;dsimp only;refine rl (XJ (env:=env) _ (λn k cs=>by cases hk:k==NameKind.free<;>simp only[hk]) sc.names [] h) ?_;rfl
set_option tactic.hygienic true in
theorem UY(h:(n,a)∈Co env names acc):(n,a)∈acc\/((n,NameKind.free)∈names/\a=(env.cells.lookup n).getD 0):=by
 induction names generalizing acc with
 |nil=>exact .inl h
 |cons nk r ih=>
  obtain⟨n',k⟩:=nk;rw[JT]at h;split at h
  ·rename_i hk;rcases ih h with h|⟨h1,h2⟩
   ·rcases mem_cons.mp h with h|h
    ·cases h;exact .inr ⟨by refine rl (Eq.symm (by simpa using hk:k = .free)) ?_;exact .head _,rfl⟩
    ·exact .inl h
   ·exact .inr ⟨.tail _ h1,h2⟩
  ·rcases ih h with h|⟨h1,h2⟩
   ·exact .inl h
   ·exact .inr ⟨.tail _ h1,h2⟩
theorem U_(h:p∈acc):p∈Co env names acc:=by
 induction names generalizing acc with
 |nil=>exact h
 |cons nk r ih=>
  rw[JT];split
  ·exact ih (.tail _ h)
  ·exact ih h
theorem UZ(h:(n,NameKind.free)∈names):(n,(env.cells.lookup n).getD 0)∈Co env names acc:=by
 induction names generalizing acc with
 |nil=>cases h
 |cons nk r ih=>
  rw[JT];rcases mem_cons.mp h with h|h
  ·cases h;simp only[beq_self_eq_true,if_true];exact U_ (.head _)
  ·split<;>exact ih h
theorem Tb{env:Env}{names:List (Str×NameKind)} :
  (names.map λ(n,k)=>if(k==NameKind.free&&env.scope.kind==.function&&env.kindOf n==some .cell) then(n,NameKind.cell) else(n,k)).lookup x=
   (names.lookup x).map λk=>if(k==NameKind.free&&env.scope.kind==.function&&env.kindOf x==some .cell) then NameKind.cell else k:=by
 induction names with
 |nil=>rfl
 |cons nk r ih=>
  obtain⟨n,k⟩:=nk;show List.lookup x ((if(k==NameKind.free&&env.scope.kind==.function&&env.kindOf n==some .cell)=true then(n,NameKind.cell) else(n,k))::_)=_;cases hx:x==n with
  |true=>
   have:x=n:=by simpa using hx
   subst this;split<;>simp_all[lookup_cons]
  |false=>
   split<;>simp only[lookup_cons,hx]<;>exact ih
theorem H_{l:List (Str×NameKind)}(h:l.lookup n=some k):(n,k)∈l:=mem_of_lookup h
set_option tactic.hygienic true in
theorem OB{nm ts:List Str}{i:Nat}(h:(C6 nm ts)[i]? =some n)(hn:n.length≠0):nm[i]? =some n/\n∉ts:=by
 unfold C6 at h;rw[getElem?_map,map_eq_some_iff]at h;refine e12 h λy h1 h2=>?_;split at h2
 ·subst h2;exact absurd rfl hn
 ·rename_i hc;subst h2;exact⟨h1,by simpa using hc⟩
structure SZ(sc csc:Scope)(nm ts:List Str):Prop where
 kind:csc.kind = .function
 loc:∀t∈ts,csc.names.lookup t=some .local
 nd:ts.Nodup
 dot:ofString ".0"∉nm
 cell:∀p∈csc.names,p.2≠.cell
 lcl:∀p∈csc.names,p.2 = .local->csc.names.lookup p.1=some .local/\(p.1∈ts\/p.1=ofString ".0")
 free:∀p∈csc.names,p.2 = .free->(sc.names.lookup p.1=some .cell/\p.1∈nm)/\csc.names.lookup p.1=some .free
 len:∀p∈csc.names,p.1.length≠0
theorem Rl{a:NameKind}(h:(a != b||c)=true)(e:a=b):c=true:=by
 rw[e,show(b != b)=false from bne_self_eq_false' ..]at h;exact h
theorem Jx(h:Ee sc csc nm ts=true):SZ sc csc nm ts:=by
 unfold Ee at h;have h5:=all_eq_true.mp (Aa h).2;have h4:=Aa (Aa h).1;have h3:=Aa h4.1;have h2:=Aa h3.1;have h1:=all_eq_true.mp h2.2;refine⟨eq_of_beq h2.1,λt ht=>eq_of_beq (Aa (Aa (h1 t ht)).1).1,of_decide_eq_true h3.2,λz=>?_,λp hp z=>?_,λp hp z=>?_,λp hp z=>?_,λp hp z=>?_⟩
 ·have:=h4.2;rw[contains_iff_mem.mpr z]at this;trivial
 ·have:=(Aa (Aa (Aa (h5 p hp)).1).1).1;rw[z]at this;trivial
 ·have:=Aa (Rl (Aa (Aa (Aa (h5 p hp)).1).1).2 z);exact⟨eq_of_beq this.1,((Bool.or_eq_true ..).mp this.2).imp contains_iff_mem.mp eq_of_beq⟩
 ·have:=Aa (Rl (Aa (Aa (h5 p hp)).1).2 z);have t:=Aa this.1;exact⟨⟨eq_of_beq t.1,contains_iff_mem.mp t.2⟩,eq_of_beq this.2⟩
 ·have:=(Aa (h5 p hp)).2;rw[z]at this;trivial
set_option tactic.hygienic true in
theorem Frm.inner{R R':RR}{env:Env}{sc csc:Scope}{nm ts:List Str}{V:VV}{xv:List AV}{C:Addr}{m:Str->Option Value}(fr:Frm R env sc nm V)(hm:Ee sc csc nm ts=true)(hC:R' C=some (.ns m))(hk:∀b r,R b=some r->R' b=some r)
  (hl:xv.length=ts.length)(hts:∀(j:Nat) t,ts[j]? =some t->∃a u,xv[j]? =some a/\m t=some u/\VR a u):Frm R' (compEnvC csc (Co env csc.names []) C env) csc (C6 nm ts++ts) (V++xv.map some):=by
 have F:=Jx hm;clear hm;have hkd:∀n,(compEnvC csc (Co env csc.names []) C env).kindOf n=(csc.names.lookup n).map λk=>if(k==NameKind.free&&env.scope.kind==.function&&env.kindOf n==some .cell) then NameKind.cell else k:=λn=>Tb;have hfree:∀n,csc.names.lookup n=some .free->env.kindOf n=some .cell/\∃i,nm[i]? =some n:=λn hn=>by
  have f:=F.free (n,.free) (H_ hn) rfl;exact⟨fr.cco n f.1.1,List.mem_iff_getElem?.mp f.1.2⟩
 have hnc:∀n,csc.names.lookup n≠some .cell:=λn hn=>F.cell (n,.cell) (H_ hn) rfl;have hlocal:∀n,csc.names.lookup n=some .local->n∈ts\/n=ofString ".0":=λn hn=>(F.lcl (n,.local) (H_ hn) rfl).2;have hlen:∀n k,csc.names.lookup n=some k->n.length≠0:=λn k hn=>F.len (n,k) (H_ hn);have hclook:∀n a,(Co env csc.names []).lookup n=some a->a=(env.cells.lookup n).getD 0/\(n,NameKind.free)∈csc.names:=λn a h=>by
  rcases UY (mem_of_lookup h)with h|⟨h1,h2⟩
  ·trivial
  ·exact⟨h2,h1⟩
 have hcell:∀n,csc.names.lookup n=some .free->∃a,env.cells.lookup n=some a/\(Co env csc.names []).lookup n=some a:=λn hn=>by
  obtain⟨k1,i,hi⟩:=hfree n hn;refine e32 (fr.cell i n hi (.inl k1)) λa x v c1 _=>?_;have hmem:=UZ (env:=env) (acc:=[]) (H_ hn);have hs:((Co env csc.names []).lookup n).isSome=true:=by
   cases q:(Co env csc.names []).lookup n with
   |some=>rfl
   |none=>have:=List.lookup_eq_none_iff.mp q _ hmem;simp at this
  refine e11 (isSome_iff_exists.mp hs) λb hb=>Ap (hclook n b hb) λe1 _=>?_;rw[c1]at e1;exact⟨a,c1,by refine rl hb (rl e1 ?_);rfl⟩
 refine⟨F.kind,fr.glob,fr.blt,λid h=>?_,λid h=>?_,λid h=>?_,λid h=>?_,λid h=>absurd h (hnc id),?_,λn n' a e e'=>?_,⟨m,hC,λi n hi hk'=>?_⟩,λi n hi hk'=>?_⟩
 ·refine rl (hkd ..) ?_;unfold M3 at h;refine rl (beq_iff_eq.mp h ..) ?_;rfl
 ·refine rl (hkd ..) ?_;rcases OV h with z|z|z
  ·exact rl z (.inl rfl)
  ·exact absurd z (hnc id)
  ·refine rl z ?_;show some (if _ then _ else _)=_\/some (if _ then _ else _)=_\/some (if _ then _ else _)=_;split
   ·exact .inr (.inl rfl)
   ·exact .inr (.inr rfl)
 ·refine rl (hkd ..) ?_;rcases Ov h with z|z
  ·exact rl z (.inl rfl)
  ·exact absurd z (hnc id)
 ·refine rl (hkd ..) (rl (h ..) ?_);rfl
 ·simp only[length_append,length_map,C6,fr.len,hl]
 ·refine Ap (hclook n a e) λe1 f1=>Ap (hclook n' a e') λe2 f2=>?_;have g1:=(F.free _ f1 rfl).2;have g2:=(F.free _ f2 rfl).2;refine e12 (hcell n g1) λa1 c1 _=>e12 (hcell n' g2) λa2 c2 _=>?_;rw[c1]at e1;rw[c2]at e2;simp only[getD_some]at e1 e2;exact fr.inj n n' a (by exact rl c1 (rl e1 rfl)) (by exact rl c2 (rl e2 rfl))
 ·have hloc:csc.names.lookup n=some .local:=by
   rw[hkd]at hk';cases q:csc.names.lookup n with
   |none=>rw[q]at hk';cases hk'
   |some k=>
    rw[q]at hk';simp only[map_some,Option.some.injEq]at hk';split at hk'
    ·trivial
    ·exact rl hk' rfl
  rcases lt_or_ge i (C6 nm ts).length with hlt|hge
  ·rw[getElem?_append_left hlt]at hi;refine Ap (OB hi (hlen n _ hloc)) λe1 e2=>?_;rcases hlocal n hloc with z|z
   ·exact absurd z e2
   ·exfalso
    exact F.dot (z▸mem_of_getElem? e1)
  ·rw[getElem?_append_right hge]at hi;refine e23 (hts _ n hi) λa u a1 a2 a3=>⟨some a,?_,by exact rl a2 (.some a3)⟩
   have hL:(C6 nm ts).length=V.length:=by simp[C6,fr.len]
   rw[hL]at hge a1;refine rl (getElem?_append_right hge) (rl (getElem?_map) (rl a1 ?_));rfl
 ·have hfr:csc.names.lookup n=some .free:=by
   rw[hkd]at hk';cases q:csc.names.lookup n with
   |none=>rw[q]at hk';rcases hk' with hk'|hk'<;>cases hk'
   |some k=>
    rw[q]at hk';simp only[map_some,Option.some.injEq]at hk';split at hk'
    ·rename_i z;simp only[Bool.and_eq_true,beq_iff_eq]at z;exact rl z.1.1 rfl
    ·rcases hk' with hk'|hk'
     ·exact absurd (q.trans (by exact rl hk' rfl)) (hnc n)
     ·exact rl hk' rfl
  rcases lt_or_ge i (C6 nm ts).length with hlt|hge
  ·rw[getElem?_append_left hlt]at hi;refine Ap (OB hi (hlen n _ hfr)) λe1 e2=>Ap (hfree n hfr) λk1 _=>e34 (fr.cell i n e1 (.inl k1)) λa x v c1 c2 c3 c4=>e12 (hcell n hfr) λa' d1 d2=>?_;rw[c1]at d1;obtain rfl:=Ak d1;have hlt':i<V.length:=(AJ c3).1;exact⟨a,x,v,d2,hk _ _ c2,by refine rl (getElem?_append_left hlt') ?_;exact c3,c4⟩
  ·rw[getElem?_append_right hge]at hi;have:=F.loc n (mem_of_getElem? hi);rw[hfr]at this;trivial
section
variable{c:Cx}{R:RR}{H:Ac}{A:Around}{E:Value->Shared->Prop}{s:Shared}
theorem WT(hi:ItObj H v k o)(ho:s.heap.get? a=some o)(q:Q (.ref a) s):wpAny (model c.prog c.w) A (pyIter (.ref a)) Q E s:=by
 cases v with
 |ref p=>
  unfold ItObj at hi;dsimp only at hi;obtain⟨oo,e⟩:∃oo,H p=oo:=⟨_,rfl⟩
  rw[e]at hi;cases oo with
  |none=>exact hi.elim
  |some oo=>
  cases oo with
  |list ys=>exact wpAny_pyIter_listiter ⟨o,ho,hi.1,hi.2⟩ q
  |tuple ys=>exact wpAny_pyIter_tupleiter ⟨o,ho,hi.1,hi.2⟩ q
  |range lo hi'=>rw[show o=_ from hi]at ho;exact wpAny_pyIter_rangeiter ho q
  |dict ep es=>exact wpAny_pyIter_keyiter ⟨o,ho,hi.1,hi.2⟩ q
  |_=>exact hi.elim
 |str y=>
  refine e12 hi λt hc hd=>?_;rcases hc with hc|hc
  ·exact wpAny_pyIter_striter_ascii ⟨o,ho,hc,hd⟩ q
  ·exact wpAny_pyIter_striter_wide ⟨o,ho,hc,hd⟩ q
 |none=>exact hi.elim
 |bool b=>exact hi.elim
 |int i=>exact hi.elim
theorem St1.give(S:St1 c R H h)(hx:R x=some r₀)(hs:Heap.SameBut x h h')(hni:∀cl es,ao≠.inst cl es)(ho:∀D,ORep c h' D x ao):H x=none/\St1 c (BQ R x) (up H x ao) h':=by
 have bx:c.base.objs.size<=x:=(S.res x _ hx).1;obtain⟨s1,s2,s3,D,s4⟩:=S.dropAny hx hs.extBut (rl hs.1 S.size);refine e11 S.rep λD₀ s40=>?_;have hHx:H x=none:=by
  cases q:H x with
  |none=>rfl
  |some o=>have:=(s40.above x o q).2;rw[hx]at this;trivial
 have hD:∀a cl es,H a=some (.inst cl es)->D a≠x:=λa cl es e z=>by
  have hax:a≠x:=λw=>by rw[w,hHx]at e;trivial
  obtain⟨e1,ents,n,e2,_⟩:=s4.rep a _ e;obtain⟨p1,ents',n',p2,_⟩:=s40.rep a _ e;rw[hs.2 a hax]at e1;rw[p1]at e1;have hd:D₀ a=D a:=by injection e1 with e1;injection e1 with _ z;exact Ak z
  have:=(s40.dict a cl es e).2.1;rw[hd,z,hx]at this;trivial
 refine⟨hHx,s1,s2,s3,D,⟨λa o e=>?_,λa o e=>?_,λa cl es e=>?_,λa b cl es cl' es' e e'=>?_⟩⟩
 ·by_cases q:a=x
  ·subst q;rw[Ah]at e;obtain rfl:=Ak e;exact ho D
  ·rw[Ag q]at e;exact s4.rep a o e
 ·by_cases q:a=x
  ·subst q;exact⟨IS bx,E_⟩
  ·rw[Ag q]at e;exact s4.above a o e
 ·by_cases q:a=x
  ·subst q;rw[Ah]at e;obtain rfl:=Ak e;exact absurd rfl (hni cl es)
  ·rw[Ag q]at e;exact Br (s4.dict a cl es e) λy1 y2 y3=>⟨y1,y2,by exact rl (Ag (hD a cl es e)) y3⟩
 ·by_cases q:a=x
  ·subst q;rw[Ah]at e;obtain rfl:=Ak e;exact absurd rfl (hni cl es)
  ·by_cases q':b=x
   ·subst q';rw[Ah]at e';obtain rfl:=Ak e';exact absurd rfl (hni cl' es')
   ·rw[Ag q]at e;rw[Ag q']at e';exact s4.inj a b cl es cl' es' e e'
end
theorem St.give(S:St c R H h)(hx:R x=some r₀)(hs:Heap.SameBut x h h')(hni:∀cl es,ao≠.inst cl es)(ho:∀D,ORep c h' D x ao)(hb:ao.isB=false:=by rfl):H x=none/\St c (BQ R x) (up H x ao) h':=by
 exact e12 S λH₁ s r=>Ap (s.give hx hs hni ho) λe s'=>⟨r.none e,_,s',r.put hb (.inl e)⟩
def XOk(g:Gx)(sc:Scope)(nm:List Str)(x:X)(e:Expr):Prop:=
 ∀(A:Around) (R:RR) (V:VV) (env:Env) (e₀:Env) (l₀:List Env) (s₀:Shared),Ev g A R e₀ l₀->Frm R env sc nm V->HX g A R V s₀ x (eval e env)/\HT g A R V s₀ x (isTrue e env (eval e env))
noncomputable def RC(R:RR)(a D C:Addr)(o l:Obj)(m:Str->Option Value):RR:=AY (AY (AY R a (.obj o)) D (.obj l)) C (.ns m)
theorem Pw{g:Gx}{R:RR}{s₀:Shared}{e:Value}{s':Shared}{P:Prop}(h:TE g R s₀ (λ_ _=>False) e s'):P:=by
 obtain⟨_,_,_,_,_,_,h⟩:=h;exact h.elim
theorem Q6(h:Dx R l)(k:∀b r,R b=some r->R' b=some r):Dx R' l:=λe he=>by
 have F:=h e he;exact e11 F.ns λm hm=>⟨F.kind,F.frame,F.gen,F.co,F.blt,F.glob,m,k _ _ hm⟩
inductive EP(g:Gx)(sc:Scope)(nm:List Str):Option X->List Expr->Prop
 |nil:EP g sc nm none []
 |one {x e}:XOk g sc nm x e->EP g sc nm (some x) [e]
section
variable{g:Gx}{A:Around}{R:RR}{V:VV}{s₀:Shared}{env:Env}{mg mb:Str->Option Value}{e₀:Env}{l₀:List Env}{sc csc:Scope}{nm:List Str}
theorem Vu(h:EP g sc nm c ifs)(ev:Ev g A R e₀ l₀)(fr:Frm R env sc nm V)(S:St g.c R H s.heap)(m:Sm s₀ s)
  (q:EX g c V Q E H):wpAny (model g.c.prog g.c.w) A (forIn ifs true λc r=>if r=true then do let ok <-isTrue c env (eval c env);pure (ForInStep.yield ok) else pure (ForInStep.yield r)) (TB g R s₀ Q) (TE g R s₀ E) s:=by
 cases h with
 |nil=>exact wpAny_tests_nil ⟨H,S,m,q⟩
 |one hx=>
  rw[Dg]at q;refine wpAny_tests_one (wpAny_mono ((hx A R V env e₀ l₀ s₀ ev fr).2 H s (λ_ b H=>Q b H) E S m q) (λb s' z=>?_) λ_ _ z=>z);obtain⟨v,H',S',m',q',_⟩:=z;exact⟨H',S',m',q'⟩
set_option tactic.hygienic true in
theorem UO(hp:(env.scope.kind==.class||(env.scope.kind==.module&&env.locals != env.globals))=false)
  : ∀{ts:List Str} {ys:List AV} {vs:List Value} {m:Str->Option Value} {s:Shared},Fd es ts=true->ts.Nodup->(∀t∈ts,env.kindOf t=some .local)->VRs ys vs->ys.length=ts.length->St c (AY R env.locals (.ns m)) H s.heap->
  (∀s' m',(∀t,t∉ts->m' t=m t)->(∀(j:Nat) t,ts[j]? =some t->∃a v,ys[j]? =some a/\m' t=some v/\VR a v)->St c (AY R env.locals (.ns m')) H s'.heap->Sm s s'->Q () s')->wpAny (model c.prog c.w) A (assignInOrder ((assignEach es env).map (·.2)) vs) Q E s:=by
 induction es with
 |nil=>
  intro ts ys vs m s h _ _ hv hl S q;obtain rfl:ts=[]:=isEmpty_iff.mp h;cases hv with
  |nil=>exact wpAny_pure (q s m (λ_ _=>rfl) (λj t h=>by simp at h) S ⟨_,_,rfl⟩)
  |cons=>cases hl
 |cons e r ih=>
  intro ts ys vs m s h nd hk hv hl S q;obtain⟨id,p,ts',rfl,rfl,h1⟩:=Ot h;refine Ap (nodup_cons.mp nd) λnd1 nd2=>?_;cases hv with
  |nil=>cases hl
  |cons hv1 hvr=>
  rename_i y v ys' vs';show wpAny _ A (do holding vs' (assign (.Name id p) env v);assignInOrder ((assignEach r env).map (·.2)) vs') Q E s;refine wpAny_bind (wpAny_holding (wpAny_assign_Name (wpAny_storeName_local (hk id (.head _)) (S.res _ _ Be).2 (λh₃ hn₃ hs₃=>?_) hp)));have S3:=S.setRes (r':=.ns _) Be hs₃ hn₃;rw[Mg]at S3;refine ih h1 nd2 (λt ht=>hk t (.tail _ ht)) hvr (Nat.succ.inj hl) S3 λs' m' k1 k2 S' ms=>q s' m' (λt ht=>?_) (λj t hj=>?_) S' (Sm.trans ⟨_,_,rfl⟩ ms)
  ·simp only[mem_cons,not_or]at ht;exact rl (k1 t ht.2) (if_neg ht.1)
  ·cases j with
   |zero=>
    obtain rfl:=Ak hj;exact⟨y,v,rfl,by refine rl (k1 id nd1) ?_;exact if_pos rfl,hv1⟩
   |succ j=>exact k2 j t hj
theorem Ww(C:c.Ok mg mb)(hh:A.handled=none)
  (hp:(env.scope.kind==.class||(env.scope.kind==.module&&env.locals != env.globals))=false)(htg:DZ tg tup ts)(nd:ts.Nodup)(hk:∀t∈ts,env.kindOf t=some .local)(hu:VR y u)(hw:if tup then CI ts.length y H P else P [y])
  (S:St c (AY R env.locals (.ns m)) H s.heap)
  (q:∀s' m' ys,P ys->ys.length=ts.length->(∀(j:Nat) t,ts[j]? =some t->∃a v,ys[j]? =some a/\m' t=some v/\VR a v)->St c (AY R env.locals (.ns m')) H s'.heap->Sm s s'->Q () s'):wpAny (model c.prog c.w) A (assign tg env u) Q E s:=by
 cases htg with
 |name=>
  refine wpAny_assign_Name (wpAny_storeName_local (hk _ (.head _)) (S.res _ _ Be).2 (λh₃ hn₃ hs₃=>?_) hp);have S3:=S.setRes (r':=.ns _) Be hs₃ hn₃;rw[Mg]at S3;refine q _ _ [y] hw rfl (λj t hj=>?_) S3 ⟨_,_,rfl⟩;cases j with
  |zero=>obtain rfl:=Ak hj;exact⟨y,u,rfl,if_pos rfl,hu⟩
  |succ j=>simp at hj
 |tup h1=>
  simp only[if_true]at hw;have hx:∃p xs,y = .ref p/\(H p=some (.tuple xs)\/H p=some (.list xs))/\xs.length=ts.length/\P xs:=by
   cases y with
   |ref p=>
    unfold CI at hw;dsimp only at hw;obtain⟨oo,e⟩:∃oo,H p=oo:=⟨_,rfl⟩
    rw[e]at hw;cases oo with
    |none=>exact hw.elim
    |some oo=>
    cases oo with
    |tuple xs=>exact⟨p,xs,rfl,.inl e,hw⟩
    |list xs=>exact⟨p,xs,rfl,.inr e,hw⟩
    |_=>exact hw.elim
   |_=>exact hw.elim
  obtain⟨p,xs,rfl,hx,hl,hP⟩:=hx;cases hu;refine Ap (S_ (env:=env) h1) λl1 l2=>rl (assign_Tuple ..) ?_;unfold unpack;exact rl l1 (rl l2 (rl hl.symm (wpAny_bind (wpAny_standAt (wpAny_bind (wpAny_holding (L9 C hh Be S hx λs₁ vs hv S₁ m₁=>UO hp h1 nd hk hv hl S₁ λs' m' _ k2 S' ms=>q s' m' xs hP hl k2 S' (m₁.trans ms))))))))
theorem Sw(h:DZ tg tup ts):Jr tg:=by
 cases h with
 |name=>exact .inl ⟨_,_,rfl⟩
 |tup=>exact .inr ⟨_,_,_,rfl⟩
theorem UW{prog:Program}{w:World}{R}(I:Nat->Shared->Prop)
  (turn:∀n s,I n s->wpAny (model prog w) A (pyNext it) (λr s₁=>match r with
   |none=>R (.ok .next) s₁
   |some v=>wpAny (model prog w) A (letOwnedTupleGo target it v) (λ_ s1'=>wpAny (model prog w) A (assign target env v) (λ_ s₂=>
     wpAny (model prog w) A (forIn ifs true λc r=>if r=true then do let ok <-isTrue c env (eval c env);pure (ForInStep.yield ok) else pure (ForInStep.yield r)) (λok s₃=>
      if ok=true then wpAny (model prog w) A (eval elt env) (λx s₄=>
       wpAny (model prog w) A (call (.builtin "list.append") [acc,x]) (λ_ s5=>∃m,m<n/\I m s5) (notedBy (model prog w) A env λe s'=>R (.error e) s') s₄) (notedBy (model prog w) A env λe s'=>R (.error e) s') s₃
      else ∃m,m<n/\I m s₃) (notedBy (model prog w) A env λe s'=>R (.error e) s') s₂) (notedBy (model prog w) A env λe s'=>R (.error e) s') s1') (notedBy (model prog w) A env λe s'=>R (.error e) s') s₁) (notedBy (model prog w) A env λe s'=>R (.error e) s') s)
  (n:Nat)(h:I n s):codeAny (model prog w) A (.compLoop (.ListComp elt [⟨target,iter,ifs,0⟩] scope pos) 0 it acc env) R s:=by
 refine codeAny_loop rfl I (λn s hI=>?_) n h;show wpAny _ A ((compTurn (.ListComp elt [⟨target,iter,ifs,0⟩] scope pos) 0 it acc env).onRaise (λx=>do noteFrame x env;theTreesLotGoes x)) _ _ s;refine wpAny_noted<|rl (compTurn_list ..)<|wpAny_bind (wpAny_standAt (wpAny_bind (wpAny_mono (turn n s hI) (λr s₁ h₁=>?_) λ_ _ h'=>h')));cases r with
 |none=>exact wpAny_pure h₁
 |some v=>
  refine wpAny_bind (wpAny_mono h₁ (λ_ s1' h₁'=>wpAny_bind (wpAny_mono h₁' (λ_ s₂ h₂=>wpAny_bind (wpAny_mono h₂ (λok s₃ h₃=>?_) λ_ _ h'=>h')) λ_ _ h'=>h')) λ_ _ h'=>h');cases ok with
  |false=>exact wpAny_pure ⟨rfl,h₃⟩
  |true=>
   exact wpAny_bind (wpAny_bind (wpAny_mono h₃ (λx s₄ h₄=>wpAny_bind (wpAny_mono h₄ (λ_ s5 h₅=>wpAny_pure (wpAny_pure ⟨rfl,h₅⟩)) λ_ _ h'=>h')) λ_ _ h'=>h'))
inductive NL(c:Cx)(R:RR)(s₀:Shared)(a D C:Addr)(av:AV)(l:Nat)(I:Nat->List AV->Ac->Prop)(n:Nat)(s:Shared):Prop
 |mk (k:Nat) (o':Obj) (m':Str->Option Value) (vs:List Value) (cnt:Nat) (acc:List AV) (H':Ac) (hn:n=l - k) (hk:k<=l) (it:ItObj H' av k o') (hv:VRs acc vs) (ha:acc.length<=k) (S:St c (RC R a D C o' (listOf vs.toArray cnt) m') H' s.heap) (m:Sm s₀ s) (q:I k acc H'):NL c R s₀ a D C av l I n s
theorem Ow(h:DM H H' av)(e:B6 H av=some xs):B6 H' av=some xs:=by
 cases av with
 |ref a=>
  replace h:H' a=H a:=h;unfold B6 at e⊢;dsimp only at e⊢;exact rl h e
 |_=>exact e
theorem ItObj.same2(h:ItObj H' av k o)(h1:DM H H' av)(h2:DM H H'' av):ItObj H'' av k o:=by
 cases av with
 |ref a=>exact h.same (show H'' a=H' a from(show H'' a=H a from h2).trans (show H' a=H a from h1).symm)
 |_=>exact h
section
variable{a D C:Addr}(hDa:D≠a)(hCa:C≠a)(hCD:C≠D){o o' l l':Obj}{m m':Str->Option Value}
theorem Li:RC R a D C o l m C=some (.ns m):=Be
include hCD in
theorem Lj:RC R a D C o l m D=some (.obj l):=by unfold RC;exact rl (AK (Ne.symm hCD)) (rl Be rfl)
theorem RC_sC:AY (RC R a D C o l m) C (.ns m')=RC R a D C o l m':=by
 funext b
 unfold RC;by_cases q:b=C
 ·subst q;exact rl Be (rl Be rfl)
 ·exact rl (AK q) (rl (AK q) (rl (AK q) rfl))
include hCD in
theorem SX:AY (RC R a D C o l m) D (.obj l')=RC R a D C o l' m:=by
 funext b
 unfold RC;by_cases q:b=D
 ·subst q;exact rl Be (rl (AK hCD.symm) (rl Be rfl))
 ·refine rl (AK q) ?_;by_cases q2:b=C
  ·subst q2;exact rl Be (rl Be rfl)
  ·exact rl (AK q2) (rl (AK q2) (rl (AK q) (rl (AK q) rfl)))
include hDa hCa
theorem HS:RC R a D C o l m a=some (.obj o):=by unfold RC;exact rl (AK (Ne.symm hCa)) (rl (AK (Ne.symm hDa)) (rl Be rfl))
theorem SW:AY (RC R a D C o l m) a (.obj o')=RC R a D C o' l m:=by
 funext b
 by_cases q:b=a
 ·subst q;exact rl Be (rl (HS hDa hCa) rfl)
 ·refine rl (AK q) ?_;unfold RC;by_cases q2:b=C
  ·subst q2;exact rl Be (rl Be rfl)
  ·refine rl (AK q2) (rl (AK q2) ?_);by_cases q3:b=D
   ·subst q3;exact rl Be (rl Be rfl)
   ·exact rl (AK q3) (rl (AK q3) (rl (AK q) (rl (AK q) rfl)))
end
theorem SY(ha:R a=none)(hD:R D=none)(hC:R C=none):∀b r,R b=some r->RC R a D C o l m b=some r:=λb r e=>by
 have h:∀{z},R z=none->b≠z:=λhz q=>by rw[q,hz]at e;trivial
 unfold RC;exact rl (AK (h hC)) (rl (AK (h hD)) (rl (AK (h ha)) e))
def MQ(g:Gx)(c:Option X)(x:X)(V:VV)(I:Nat->List AV->Ac->Prop)(k:Nat)(acc:List AV)(H':Ac)(ys:List AV):Prop:=EX g c (V++ys.map some) (λb H=>if b then Aj g x (V++ys.map some) (λy H=>I (k+1) (acc++(some y).toList) H) (λ_ _=>False) H else I (k+1) (acc++(none:Option AV).toList) H) (λ_ _=>False) H'
theorem UX{m₁}
  (Ck:g.c.Ok mg mb)(htg:DZ tg tup ts)(hh:A.handled=none)(ev:Ev g A R e₀ l₀)(fr:Frm R env sc nm V)(hm:Ee sc csc nm ts=true)(hx:XOk g csc (C6 nm ts++ts) x elt)(hc:EP g csc (C6 nm ts++ts) c ifs)
  (ha:R a=none)(hD:R D=none)(hC:R C=none)(hDa:D≠a)(hCa:C≠a)(hCD:C≠D)(hsv:∀y,av = .str y->PyData.strOk y=true)
  (hxs:B6 H₀ av=some xs)(hz:xs.length<=sizeLine)
  (step:∀k acc H',I k acc H'->DM H₀ H' av/\∀y,xs[k]? =some y->if tup then CI ts.length y H' (MQ g c x V I k acc H') else MQ g c x V I k acc H' [y])
  (h0:I 0 [] H₀)(ho:ItObj H₀ av 0 o)(S:St g.c (RC R a D C o (listOf #[] 0) m₁) H₀ s₁.heap)(ms:Sm s₀ s₁)
  (fin:∀acc H' s' m',I xs.length acc H'->H' D=none->St g.c (AY R C (.ns m')) (up H' D (.list acc)) s'.heap->Sm s₀ s'->RR' (.ok .next) s') :
  codeAny (model g.c.prog g.c.w) A (.compLoop (.ListComp elt [⟨tg,iter,ifs,0⟩] csc pos) 0 (.ref a) (.ref D) (compEnvC csc (Co env csc.names []) C env)) RR' s₁:=by
 have F:=Jx hm;have hRa:∀o l m,RC R a D C o l m a=some (.obj o):=λo l m=>HS hDa hCa;have hRD:∀o l m,RC R a D C o l m D=some (.obj l):=λo l m=>Lj hCD;have hRC:∀o l m,RC R a D C o l m C=some (.ns m):=λo l m=>Li;have hle:∀o l m b r,R b=some r->RC R a D C o l m b=some r:=λo l m=>SY ha hD hC;refine UW (NL g.c R s₀ a D C av xs.length I) ?_ xs.length
  ⟨0,o,m₁,[],0,[],H₀,rfl,zero_le _,ho,.nil,le_refl _,S,ms,h0⟩
 rintro n s ⟨k,o',m',vs,cnt,acc,H',rfl,hk,hio,hvs,hacc,S',ms',hI⟩;refine Ap (step k acc H' hI) λhsame hstep=>?_;have hxs':=Ow hsame hxs;cases hky:xs[k]? with
 |none=>
  have hkl:k=xs.length:=by have:=List.getElem?_eq_none_iff.mp hky;exact Nat.le_antisymm hk this
  refine M2 hh hxs' hky hio (hRa _ _ _) (hRC _ _ _) S' λs₂ S₂ m₂=>?_;have hD₂:BQ (RC R a D C o' (listOf vs.toArray cnt) m') a D=some (.obj (listOf vs.toArray cnt)):=by exact rl (CQ hDa) (hRD _ _ _)
  obtain⟨hd,S3⟩:=S₂.give (ao:=.list acc) hD₂ ⟨rfl,λ_ _=>rfl⟩ (by intro _ _ z;trivial) λ_=>⟨vs,cnt,(S₂.res _ _ hD₂).2,hvs⟩
  subst hkl;refine fin acc H' s₂ m' hI hd (S3.weaken λb r e=>?_) (ms'.trans m₂);by_cases q:b=C
  ·subst q;rw[Be]at e;obtain rfl:=Ak e;exact rl (CQ hCD) (rl (CQ hCa) (hRC _ _ _))
  ·rw[AK q]at e;have h1:b≠a:=λz=>by rw[z,ha]at e;trivial
   have h2:b≠D:=λz=>by rw[z,hD]at e;trivial
   exact rl (CQ h2) (rl (CQ h1) (hle _ _ _ _ _ e))
 |some y=>
  have hlt:k<xs.length:=(AJ hky).1;refine Mm hxs' hky hio (hRa _ _ _) S' hsv λs₂ u o₂ hu ho2 S₂ m₂=>?_;rw[SW hDa hCa]at S₂;have hw:=hstep y hky;refine Ps (Sw htg) ho2 ((S₂.res _ _ (hRa _ _ _)).2) ?_;have hRR:RC R a D C o₂ (listOf vs.toArray cnt) m'=AY (RC R a D C o₂ (listOf vs.toArray cnt) m') (compEnvC csc (Co env csc.names []) C env).locals (.ns m'):=RC_sC.symm;rw[hRR]at S₂;refine Ww (P:=MQ g c x V I k acc H') Ck hh (by simp[compEnvC,relabel,F.kind]) htg F.nd (λt ht=>lookup_relabel_local (F.loc t ht)) hu hw S₂ λs₃ m₃ ys hw hyl hys S3 ms3=>?_;rw[show AY (RC R a D C o₂ (listOf vs.toArray cnt) m') (compEnvC csc (Co env csc.names []) C env).locals (.ns m₃)=RC R a D C o₂ (listOf vs.toArray cnt) m₃ from RC_sC]at S3;have ev':∀o l m,Ev g A (RC R a D C o l m) e₀ l₀:=λo l m=>⟨ev.aok,Q6 ev.stk (hle o l m)⟩
  have fr':∀o l,Frm (RC R a D C o l m₃) (compEnvC csc (Co env csc.names []) C env) csc (C6 nm ts++ts) (V++ys.map some):=λo l=>
   fr.inner (xv:=ys) hm (hRC _ _ _) (hle _ _ _) hyl hys
  refine wpAny_mono (Vu hc (ev' _ _ _) (fr' _ _) S3 ((ms'.trans m₂).trans ms3) hw) (λok s₄ z=>?_) λ_ _ z=>Pw z;obtain⟨H₄,S₄,m₄,q₄⟩:=z;cases ok with
  |false=>
   simp only[Bool.false_eq_true,if_false,Option.toList_none,append_nil]at q₄⊢;have hs4:=(step _ _ _ q₄).1;exact⟨xs.length - (k+1),Nj hlt,k+1,o₂,_,vs,cnt,acc,H₄,rfl,hlt,ho2.same2 hsame hs4,hvs,Nat.le_add_right_of_le hacc,S₄,m₄,q₄⟩
  |true=>
   simp only[if_true]at q₄⊢;refine wpAny_mono ((hx A _ _ _ e₀ l₀ s₀ (ev' _ _ _) (fr' _ _)).1 H₄ s₄ _ _ S₄ m₄ q₄) (λw s5 z=>?_) λ_ _ z=>Pw z;obtain⟨bv,H₅,hw5,S₅,m5,q₅⟩:=z;have hs5:=(step _ _ _ q₅).1;have hsz:vs.length<=sizeLine:=by have:=hvs.length;exact KI hlt hz this hacc
   refine append_at (S₅.res _ _ (hRD _ _ _)).2 (λh₆ hs6 ho6=>?_) (by simpa using hsz);have S₆:=S₅.setRes (r':=.obj (listOf (vs++[w]).toArray (cnt+1))) (hRD _ _ _) hs6 (by show h₆.get? D=_;refine rl ho6 ?_;simp[W.listOf]);rw[SX hCD]at S₆;exact⟨xs.length - (k+1),Nj hlt,k+1,o₂,_,vs++[w],cnt+1,acc++[bv],H₅,rfl,hlt,ho2.same2 hsame hs5,hvs.append (.one hw5),by simp;omega,S₆,m5.heap _,q₅⟩
theorem O_(fr:Frm R env sc nm V)(hm:Ee sc csc nm ts=true):closureFor csc env=pure (Co env csc.names []):=by
 refine Tk λp hp hk=>?_;have z:=(Jx hm).free p hp hk;exact e11 (List.mem_iff_getElem?.mp z.1.2) λi hi=>e32 (fr.cell i p.1 hi (.inl (fr.cco _ z.1.1))) λa x v c1 _=>⟨a,c1⟩
theorem I5(hm:Ee sc csc nm ts=true):csc.kind = .function/\(∀y∈csc.names,y.2≠.cell)/\∀y∈csc.names,y.2 = .local->csc.names.lookup y.1=some .local:=
 have F:=Jx hm
 ⟨F.kind,F.cell,λy hy hk=>(F.lcl y hy hk).1⟩
set_option tactic.hygienic true in
theorem O2{x:X}{c:Option X}{elt iter tg:Expr}{ifs:List Expr}{tup:Bool}{ts:List Str}{pos:Pos}{xs:List AV}{av:AV}{u:Value}{H₀:Ac}{I:Nat->List AV->Ac->Prop}{RR':Value->Addr->Result->Shared->Prop}{s₁:Shared}{E:Value->Shared->Prop}
  (Ck:g.c.Ok mg mb)(htg:DZ tg tup ts)(hh:A.handled=none)(ev:Ev g A R e₀ l₀)(fr:Frm R env sc nm V)(hm:Ee sc csc nm ts=true)(hx:XOk g csc (C6 nm ts++ts) x elt)(hc:EP g csc (C6 nm ts++ts) c ifs)
  (hv:VR av u)(S:St g.c R H₀ s₁.heap)(ms:Sm s₀ s₁)(hxs:B6 H₀ av=some xs)(hz:xs.length<=sizeLine)(h0:I 0 [] H₀)
  (step:∀k acc H',I k acc H'->DM H₀ H' av/\∀y,xs[k]? =some y->if tup then CI ts.length y H' (λys=>EX g c (V++ys.map some) (λb H=>if b then Aj g x (V++ys.map some) (λy H=>I (k+1) (acc++(some y).toList) H) (λ_ _=>False) H else I (k+1) (acc++(none:Option AV).toList) H) (λ_ _=>False) H') else EX g c (V++[some y]) (λb H=>if b then Aj g x (V++[some y]) (λy H=>I (k+1) (acc++(some y).toList) H) (λ_ _=>False) H else I (k+1) (acc++(none:Option AV).toList) H) (λ_ _=>False) H')
  (fin:∀D Ca acc H' s' m',R Ca=none->I xs.length acc H'->H' D=none->St g.c (AY R Ca (.ns m')) (up H' D (.list acc)) s'.heap->Sm s₀ s'->RR' (.ref D) Ca (.ok .next) s') :
  wpAny (model g.c.prog g.c.w) A (pyIter u) (λit s₂=>wpAny (model g.c.prog g.c.w) A (newList []) (λacc s₃=>wpAny (model g.c.prog g.c.w) A (newFunctionEnv csc env.globals (Co env csc.names []) [] env.qual none .none (some env)) (λcenv s₄=>
   codeAny (model g.c.prog g.c.w) A (.compStart (.ListComp elt [⟨tg,iter,ifs,0⟩] csc pos) 0 it acc {cenv with scope:=relabel csc env}) (RR' acc cenv.locals) s₄) E s₃) E s₂) E s₁:=by
 refine Br (I5 hm) λhkind hcell _=>?_;have hsv:∀y,av = .str y->PyData.strOk y=true:=by rintro y rfl;cases hv;assumption
 refine MA Ck hv S hxs λs₂ a o ha hHa ho S₂ m₂=>wpAny_newObj_type (wpAny_newFunctionEnv hcell (by intro y hy;simp at hy) (λh₁ hns1 hsb1=>?_) hkind);dsimp only at hns1 hsb1⊢;obtain⟨hD1,hD2,S3⟩:=S₂.newRes (x:=s₂.heap.objs.size) (r:=.obj (listOf #[] 0)) (h':=s₂.heap.push {cls:=.type "list",dict:=none,data:=.seq ([]:List Value).toArray}) (le_refl _) (λ_ _ z=>Heap.get?_push_of_some _ z) (by rw[Heap.size_push];exact Dw) (Heap.get?_push_size _ rfl);generalize hH2:s₂.heap.push {cls:=.type "list",dict:=none,data:=.seq ([]:List Value).toArray}=H2 at hns1 hsb1 S3⊢;obtain⟨hC1,hC2,S₄⟩:=S3.newRes (x:=H2.objs.size) (r:=.ns _) (h':=h₁) (le_refl _) (λb ob z=>hsb1.extBut b ob (ne_of_lt (Heap.lt_size z)) (Heap.get?_push_of_some _ z)) (by rw[hsb1.1,Heap.size_push];exact Dw) hns1;generalize s₂.heap.objs.size=D at hD1 hD2 S3 S₄ hC1⊢;generalize H2.objs.size=Ca at hC1 hC2 S₄ hns1 hsb1⊢;have hDa:D≠a:=λz=>by rw[z,Be]at hD1;trivial
 have hCD:Ca≠D:=λz=>by rw[z,Be]at hC1;trivial
 rw[AK hCD]at hC1;have hCa:Ca≠a:=λz=>by rw[z,Be]at hC1;trivial
 rw[AK hCa]at hC1;rw[AK hDa]at hD1;have loop:∀s₃:Shared,s₃= {s₂ with heap:=h₁,toks:=s₂.toks+([]:List (Str×Value)).length}->
   codeAny (model g.c.prog g.c.w) A (.compLoop (.ListComp elt [⟨tg,iter,ifs,0⟩] csc pos) 0 (.ref a) (.ref D) (compEnvC csc (Co env csc.names []) Ca env)) (RR' (.ref D) Ca) s₃:=by
  rintro s₃ rfl;exact UX Ck htg hh ev fr hm hx hc ha hD1 hC1 hDa hCa hCD hsv hxs hz step h0 ho S₄ ((ms.trans m₂).step _ _) λacc H' s' m' h1 h2 h3 h4=>fin D Ca acc H' s' m' hC1 h1 h2 h3 h4
 exact codeAny_compStart_list (loop _ rfl) (WT ho ((S₄.res a (.obj o) (rl (AK (Ne.symm hCa)) (rl (AK (Ne.symm hDa)) (rl Be rfl)))).2) (loop _ rfl))
theorem WZ{x it:X}{c:Option X}{elt iter tg:Expr}{ifs:List Expr}{tup:Bool}{ts:List Str}{pos:Pos}(Ck:g.c.Ok mg mb)(htg:DZ tg tup ts)(ev:Ev g A R e₀ l₀)(fr:Frm R env sc nm V)(hm:Ee sc csc nm ts=true)
  (hf:∀x,foldedSetIterable iter env x=pure x)(hit:HX g A R V s₀ it (eval iter env))(hx:XOk g csc (C6 nm ts++ts) x elt)(hc:EP g csc (C6 nm ts++ts) c ifs) :
  HX g A R V s₀ (.comp x ts.length tup it c) (eval (.ListComp elt [⟨tg,iter,ifs,0⟩] csc pos) env):=λH s Q E S m q=>by
 dsimp only[Aq,Ad,Av,Bo,AF,Am,Ar,Bd,Au,Bf,A_,A6,A1,Ax,Ba,AB,AN,BP,Bg,BU,BO,BE,Bl]at q;refine Ap q λhmd q=>rl (eval_ListComp ..)<|wpAny_comprehension_free (use:=none) rfl hf (O_ fr hm) (I5 hm).1 (I5 hm).2.2<|wpAny_mono (hit H s _ E S m q) (λu s₁ z=>?_) λ_ _ z=>z;obtain⟨av,H₁,hv,S₁,m₁,xs,hxs,hz,I,hI,hstep⟩:=z;refine O2 (I:=I) (RR':=λacc Ca=>compPost (model g.c.prog g.c.w) A (TE g R s₀ E) none (TQ g R s₀ Q) acc Ca) Ck htg (ev.aok.hand hmd) ev fr hm hx hc hv S₁ m₁ hxs hz hI (λk acc H' hi=>⟨(hstep k acc H' hi).1,(hstep k acc H' hi).2.2⟩) ?_;intro D Ca acc H' s' m' hCa hi hd S' ms';refine⟨m',(S'.res Ca _ Be).2,λh' hs'=>⟨.ref D,up H' D (.list acc),.ref D,(S'.dropAny (Be) hs'.extBut (rl hs'.1 S'.size)).weaken λb r e=>?_,ms'.heap _,(hstep _ acc H' hi).2.1 rfl D hd⟩⟩;have hb:b≠Ca:=λz=>by rw[z,hCa]at e;trivial
 exact rl (CQ hb) (rl (AK hb) e)
theorem Wk(ev:Ev g A R e₀ l₀)(fr:Frm R env sc nm V)(hk:XOk g sc nm k ke)(hv:XOk g sc nm v ve):HX g A R V s₀ (.dict [k] [v]) (eval (.Dict [some ke] [ve] pos) env):=λH s Q E S m q=>by
 dsimp only[Aq,Ad,Av,Bo,AF,Am,Ar,Bd,Au,Bf,A_,A6,A1,Ax,Ba,AB,AN,BP,Bg,BU,BO,BE,Bl]at q;refine wpAny_Dict_walk (knd:=strKind g.c.prog g.c.w) rfl rfl (by simp) (by simp) ?_;obtain⟨hR,hH,S₁⟩:=S.newRes (x:=s.heap.objs.size) (r:=.obj {cls:=.type "dict",data:=.dict #[]}) (h':=s.heap.push {cls:=.type "dict",data:=.dict #[]}) (le_refl _) (λ_ _ z=>Heap.get?_push_of_some _ z) (by refine rl (Heap.size_push ..) ?_;exact Dw) (Heap.get?_push_size _ rfl);generalize s.heap.objs.size=d at hR hH S₁⊢;generalize s.heap.push {cls:=.type "dict",data:=.dict #[]}=h₁ at S₁⊢;have hle:∀b r,R b=some r->AY R d (.obj {cls:=.type "dict",data:=.dict #[]}) b=some r:=λb r e=>by
  refine rl (AK (λz=>by rw[z,hR]at e;trivial)) ?_;exact e
 have ev':Ev g A (AY R d (.obj {cls:=.type "dict",data:=.dict #[]})) e₀ l₀:=⟨ev.aok,Q6 ev.stk hle⟩
 have fr':Frm (AY R d (.obj {cls:=.type "dict",data:=.dict #[]})) env sc nm V:=fr.congr λb hb=>AK λz=>by
  rw[z]at hb;rcases hb with⟨_,hb⟩|⟨_,hb⟩<;>(rw[hR]at hb;trivial)
 have te:∀{e:Value} {s':Shared},TE g (AY R d (.obj {cls:=.type "dict",data:=.dict #[]})) s₀ E e s'->TE g R s₀ E e s':=by
  rintro e s' ⟨a,cl,H',e1,X,ms,q⟩;exact⟨a,cl,H',e1,X.weaken hle,ms,q⟩
 refine pairTrees_cons_walk (wpAny_mono ((hk A _ V env e₀ l₀ s₀ ev' fr').1 H _ _ E S₁ (m.heap _) q) (λkv s₂ z=>?_) λ_ _ z=>te z);obtain⟨ka,H₂,hka,S₂,m₂,q₂⟩:=z;refine wpAny_mono ((hv A _ V env e₀ l₀ s₀ ev' fr').1 H₂ _ _ E S₂ m₂ q₂) (λvv s₃ z=>?_) λ_ _ z=>te z;obtain⟨va,H₃,hva,S3,m₃,q₃⟩:=z;refine pairTrees_nil_walk ?_;cases hka with
 |str ks tk hok=>
  dsimp only at q₃;have hd₃:s₃.heap.get? d=some {cls:=.type "dict",data:=.dict #[]}:=(S3.res d _ Be).2;refine⟨[(ks,vv)],⟨?_,rfl,trivial⟩,⟨_,#[],0,hd₃,⟨rfl,rfl,rfl⟩,rfl,λ_ h=>by simp at h,.nil,nodup_nil⟩,λh' hd hs=>?_⟩
  ·exact strKind_is _ _ ks tk
  ·refine e31 hd λo' es' ep hda=>?_;obtain⟨hn,S₄⟩:=S3.give (h':=h') (ao:=.dict ep [(ks,va)]) Be hs (by intro _ _ z;trivial) λ_=>⟨[(ks,vv)],⟨o',es',hda⟩,.cons hok hva .nil⟩
   refine⟨.ref d,_,.ref d,S₄.weaken λb r e=>?_,m₃.step _ _,q₃ d ep hn⟩;have hb:b≠d:=λz=>by rw[z,hR]at e;trivial
   exact rl (CQ hb) (rl (AK hb) e)
 |none=>exact q₃.elim
 |bool=>exact q₃.elim
 |int=>exact q₃.elim
 |ref=>exact q₃.elim
end
section
variable{g:Gx}{mg mb:Str->Option Value}(C:g.c.Ok mg mb)(PO:AZ g.c)
theorem FD(h:BC (λx e=>XOk g sc nm x e/\CL e=true) xs es)(ev:Ev g A R e₀ l₀)(fr:Frm R env sc nm V) :
  Dk g A R V s₀ env xs es:=by
 induction h with
 |nil=>exact .nil
 |cons a _ ih=>exact .cons ⟨(a.1 A R V env e₀ l₀ s₀ ev fr).1,a.2⟩ ih
theorem Wn(h:BC (λx e=>XOk g sc nm x e/\CL e=true) xs es)(ev:Ev g A R e₀ l₀)(fr:Frm R env sc nm V) :
  BC (λx e=>HX g A R V s₀ x (eval e env)) xs es:=by
 induction h with
 |nil=>exact .nil
 |cons a _ ih=>exact .cons (a.1 A R V env e₀ l₀ s₀ ev fr).1 ih
theorem VM(h:BC (λx e=>XOk g sc nm x e/\CL e=true) xs es)(ev:Ev g A R e₀ l₀)(fr:Frm R env sc nm V) :
  BC (λx e=>HT g A R V s₀ x (isTrue e env (eval e env))) xs es:=by
 induction h with
 |nil=>exact .nil
 |cons a _ ih=>exact .cons (a.1 A R V env e₀ l₀ s₀ ev fr).2 ih
theorem XOk.of(h:∀(A:Around) (R:RR) (V:VV) (env:Env) (e₀:Env) (l₀:List Env) (s₀:Shared),Ev g A R e₀ l₀->Frm R env sc nm V->HX g A R V s₀ x (eval e env))
  (he:∀env whole,isTrue e env whole=(do let v <-whole;standAt e.pos;holding [v] (truthy v))):XOk g sc nm x e:=λA R V env e₀ l₀ s₀ ev fr=>
 ⟨h A R V env e₀ l₀ s₀ ev fr,HT.plain (h A R V env e₀ l₀ s₀ ev fr) (he _ _)⟩
theorem Lx(h:GW iter=true)(x:Value):foldedSetIterable iter env x=pure x:=by
 cases iter<;>first|rfl|exact Bool.noConfusion h
include C PO in
mutual
theorem sX:∀(x:X) (e:Expr) (top:Bool) (sc:Scope) (nm:List Str),By g.c.P top sc nm x e=true->XOk g sc nm x e
 | .lit v,e,top,sc,nm,h=>NX (m:=XOk g sc nm (.lit v)) h λ_ _ _ h=>.of (λ_ _ _ _ _ _ _ _ _=>RU h) λ_ _=>rfl
 | .var i,e,top,sc,nm,h=>VY (m:=XOk g sc nm (.var i)) h λ_ _ h1 h2 h3=>.of (λ_ _ _ _ _ _ _ _ fr=>RO fr h1 h2 h3) λ_ _=>rfl
 | .glob n,e,top,sc,nm,h=>P4 (m:=XOk g sc nm (.glob n)) h λ_ _ h=>.of (λ_ _ _ _ _ _ _ _ fr=>WY C PO fr h) λ_ _=>rfl
 | .bin op a b,e,top,sc,nm,h=>Wd (m:=XOk g sc nm (.bin op a b)) h λl r p h1 h2=>
  .of (λA R V env e₀ l₀ s₀ ev fr=>RA C ev (sX a l top sc nm h1 A R V env e₀ l₀ s₀ ev fr).1 (sX b r top sc nm h2 A R V env e₀ l₀ s₀ ev fr).1) λ_ _=>rfl
 | .neg a,e,top,sc,nm,h=>Wa (m:=XOk g sc nm (.neg a)) h λl p h=>.of (λA R V env e₀ l₀ s₀ ev fr=>RT (sX a l top sc nm h A R V env e₀ l₀ s₀ ev fr).1) λ_ _=>rfl
 | .not a,e,top,sc,nm,h=>V_ (m:=XOk g sc nm (.not a)) h λl p h A R V env e₀ l₀ s₀ ev fr=>have z:=sX a l top sc nm h A R V env e₀ l₀ s₀ ev fr;⟨RQ z.1,RB z.2⟩
 | .ao isAnd xs,e,top,sc,nm,h=>Xo (m:=XOk g sc nm (.ao isAnd xs)) h λvs p h A R V env e₀ l₀ s₀ ev fr=>have z:=EW xs vs top sc nm h;⟨SO (Wn z ev fr),SP (VM z ev fr)⟩
 | .cmp op a b,e,top,sc,nm,h=>Wc (m:=XOk g sc nm (.cmp op a b)) h λl r p h0 h1 h2 A R V env e₀ l₀ s₀ ev fr=>
  have z1:=sX a l top sc nm h1 A R V env e₀ l₀ s₀ ev fr;have z2:=sX b r top sc nm h2 A R V env e₀ l₀ s₀ ev fr;⟨R9 C ev h0 z1.1 z2.1,RE C ev h0 z1.1 z2.1⟩
 | .cmp2 op1 op2 a b d,e,top,sc,nm,h=>UJ (m:=XOk g sc nm (.cmp2 op1 op2 a b d)) h λl r₁ r₂ p h0 h1 h2 h3 A R V env e₀ l₀ s₀ ev fr=>
  have z1:=sX a l top sc nm h1 A R V env e₀ l₀ s₀ ev fr;have z2:=sX b r₁ top sc nm h2 A R V env e₀ l₀ s₀ ev fr;have z3:=sX d r₂ top sc nm h3 A R V env e₀ l₀ s₀ ev fr;⟨W_ C ev h0 z1.1 z2.1 z3.1,X8 C ev h0 z1.1 z2.1 z3.1⟩
 | .sub a i,e,top,sc,nm,h=>P8 (m:=XOk g sc nm (.sub a i)) h λv sl p h0 h1 h2=>
  .of (λA R V env e₀ l₀ s₀ ev fr=>RP C h0 (sX a v top sc nm h1 A R V env e₀ l₀ s₀ ev fr).1 (sX i sl top sc nm h2 A R V env e₀ l₀ s₀ ev fr).1) λ_ _=>rfl
 | .slice a lo hi st,e,top,sc,nm,h=>Ub (m:=XOk g sc nm (.slice a lo hi st)) h λv l u t p q h0 h1 h2 h3=>
  .of (λA R V env e₀ l₀ s₀ ev fr=>Wj (sX a v top sc nm h0 A R V env e₀ l₀ s₀ ev fr).1 (sO lo l top sc nm h1 A R V env e₀ l₀ s₀ ev fr) (sO hi u top sc nm h2 A R V env e₀ l₀ s₀ ev fr) (sO st t top sc nm h3 A R V env e₀ l₀ s₀ ev fr)) λ_ _=>rfl
 | .attr a n,e,top,sc,nm,h=>UK (m:=XOk g sc nm (.attr a n)) h λv p h1 h2=>.of (λA R V env e₀ l₀ s₀ ev fr=>X7 C PO h1 (sX a v top sc nm h2 A R V env e₀ l₀ s₀ ev fr).1) λ_ _=>rfl
 | .call f xs,e,top,sc,nm,h=>Ih (m:=XOk g sc nm (.call f xs)) h λfe as p h0 h1 h2=>.of (λ_ _ _ _ _ _ _ ev fr=>X6 C PO ev fr h0 h1 (FD (EW xs as top sc nm h2) ev fr)) λ_ _=>rfl
 | .new f xs,e,top,sc,nm,h=>Ih (m:=XOk g sc nm (.new f xs)) h λfe as p h0 h1 h2=>.of (λ_ _ _ _ _ _ _ ev fr=>RS C PO ev fr h0 h1 (FD (EW xs as top sc nm h2) ev fr)) λ_ _=>rfl
 | .meth a m xs,e,top,sc,nm,h=>OT (m:=XOk g sc nm (.meth a m xs)) h λo _ as _ h1 h2 h3 h4 h5=>.of (λA R V env e₀ l₀ s₀ ev fr=>WW C PO ev h2 h1 h3 (sX a o top sc nm h4 A R V env e₀ l₀ s₀ ev fr).1 (FD (EW xs as top sc nm h5) ev fr)) λ_ _=>rfl
 | .bm a m xs,e,top,sc,nm,h=>OT (m:=XOk g sc nm (.bm a m xs)) h λo _ as _ h1 h2 h3 h4 h5=>.of (λA R V env e₀ l₀ s₀ ev fr=>SN C ev h2 h1 h3 (sX a o top sc nm h4 A R V env e₀ l₀ s₀ ev fr).1 (FD (EW xs as top sc nm h5) ev fr)) λ_ _=>rfl
 | .prim f xs,e,top,sc,nm,h=>Ih (m:=XOk g sc nm (.prim f xs)) h λfe as p h0 h1 h2=>.of (λ_ _ _ _ _ _ _ ev fr=>WV C PO ev fr h0 h1 (FD (EW xs as top sc nm h2) ev fr)) λ_ _=>rfl
 | .isinst a ty,e,top,sc,nm,h=>Wb (m:=XOk g sc nm (.isinst a ty)) h λfe x t p hs h0 h1 h2 h3 h4=>.of (λA R V env e₀ l₀ s₀ ev fr=>U7 C PO fr h0 h1 h2 h3 (sX a x top sc nm h4 A R V env e₀ l₀ s₀ ev fr).1 hs) λ_ _=>rfl
 | .list xs,e,top,sc,nm,h=>UI (m:=XOk g sc nm (.list xs)) h λes p h1 h2=>.of (λ_ _ _ _ _ _ _ ev fr=>WX (FD (EW xs es top sc nm h1) ev fr) h2) λ_ _=>rfl
 | .tuple xs,e,top,sc,nm,h=>VZ (m:=XOk g sc nm (.tuple xs)) h λes k p h1 h2=>.of (λ_ _ _ _ _ _ _ ev fr=>Wi (FD (EW xs es top sc nm h1) ev fr) h2) λ_ _=>rfl
 | .dict ks vs,e,top,sc,nm,h=>match ks,vs,h with
  |[],[],h=>Ud (m:=XOk g sc nm (.dict [] [])) h λ_=>.of (λ_ _ _ _ _ _ _ _ _=>Wm) λ_ _=>rfl
  |[k],[v],h=>Uc (m:=XOk g sc nm (.dict [k] [v])) h λks' vs' p h1 h2=>
   Ef (m:=λks'=>XOk g sc nm (.dict [k] [v]) (.Dict ks' vs' p)) h1 λo r h1=>CJ (m:=λr=>XOk g sc nm (.dict [k] [v]) (.Dict (o::r) vs' p)) (Aa h1).2
    (Ju (m:=λo=>XOk g sc nm (.dict [k] [v]) (.Dict [o] vs' p)) (Aa h1).1 λa ha=>
    Ef (m:=λvs'=>XOk g sc nm (.dict [k] [v]) (.Dict [some a] vs' p)) h2 λb r h2=>CJ (m:=λr=>XOk g sc nm (.dict [k] [v]) (.Dict [some a] (b::r) p)) (Aa h2).2
    (.of (λ_ _ _ _ _ _ _ ev fr=>Wk ev fr (sX k a top sc nm ha) (sX v b top sc nm (Aa (Aa h2).1).1)) λ_ _=>rfl))
  |[],_::_,h=>G6 (m:=XOk g sc nm _) h λ_ _ _ h=>Bool.noConfusion h
  |[_],[],h=>G6 (m:=XOk g sc nm _) h λ_ _ _ h=>Bool.noConfusion h
  |[_],_::_::_,h=>G6 (m:=XOk g sc nm _) h λ_ _ _ h=>Bool.noConfusion h
  |_::_::_,_,h=>G6 (m:=XOk g sc nm _) h λ_ _ _ h=>Bool.noConfusion h
 | .comp x k tup it c,e,top,sc,nm,h=>OU (m:=XOk g sc nm (.comp x k tup it c)) h λelt tg iter ifs csc ts p htg o=>
  .of (λA R V env e₀ l₀ s₀ ev fr=>o.len▸WZ C htg ev fr o.sc (Lx o.set) (sX it iter top sc nm o.it A R V env e₀ l₀ s₀ ev fr).1 (sX x elt false _ _ o.x) (sC c ifs _ _ o.c)) λ_ _=>rfl
theorem sC:∀(c:Option X) (es:List Expr) (sc:Scope) (nm:List Str),Rn g.c.P sc nm c es=true->EP g sc nm c es
 |none,es,sc,nm,h=>CJ (m:=EP g sc nm none) h .nil
 |some x,es,sc,nm,h=>Ge (m:=EP g sc nm (some x)) h λe h=>.one (sX x e false sc nm h)
theorem EW:∀(xs:List X) (es:List Expr) (top:Bool) (sc:Scope) (nm:List Str),Cg g.c.P top sc nm xs es=true->BC (λx e=>XOk g sc nm x e/\CL e=true) xs es
 |[],es,top,sc,nm,h=>CJ (m:=BC (λx e=>XOk g sc nm x e/\CL e=true) []) h .nil
 |x::r,es,top,sc,nm,h=>Ef (m:=BC (λx e=>XOk g sc nm x e/\CL e=true) (x::r)) h λe q h=>.cons ⟨sX x e top sc nm (Aa (Aa h).1).1,(Aa (Aa h).1).2⟩ (EW r q top sc nm (Aa h).2)
theorem sO:∀(o:Option X) (e:Option Expr) (top:Bool) (sc:Scope) (nm:List Str),Kl g.c.P top sc nm o e=true->
  ∀(A:Around) (R:RR) (V:VV) (env:Env) (e₀:Env) (l₀:List Env) (s₀:Shared),Ev g A R e₀ l₀->Frm R env sc nm V->HO g A R V s₀ env o e
 |none,none,top,sc,nm,h=>λ_ _ _ _ _ _ _ _ _=>trivial
 |none,some _,top,sc,nm,h=>Bool.noConfusion h
 |some x,none,top,sc,nm,h=>Bool.noConfusion h
 |some x,some e,top,sc,nm,h=>λA R V env e₀ l₀ s₀ ev fr=>(sX x e top sc nm h A R V env e₀ l₀ s₀ ev fr).1
end
end
section
variable{g:Gx}{sc:Scope}{nm:List Str}{mg mb:Str->Option Value}
abbrev CP(g:Gx)(sc:Scope)(nm:List Str)(x:X)(e:Expr):Prop:=∀md,XOk {g with md:=md} sc nm x e
theorem Dc(fr:Frm R env sc nm V)(h:TE {g with md:=md} R s₀ (λcl H=>E cl V H) e s'):TX g env sc nm R s₀ E e s':=by
 obtain⟨a,cl,H',rfl,x,m,q⟩:=h;exact⟨a,cl,R,V,H',.none,rfl,.refl,fr,.inr (.inl rfl),x,m,q⟩
theorem TF.trans(x:RStep env R R')(h:TF g env sc nm R' s₀ QN QR f s'):TF g env sc nm R s₀ QN QR f s':=by
 cases f with
 |next=>obtain⟨R2,V',H',r,k1,k2,k3,k4⟩:=h;exact⟨R2,V',H',x.trans r,k1,k2,k3,k4⟩
 |ret v=>obtain⟨R2,V',H',r,k1,k2,k3,k4⟩:=h;exact⟨R2,V',H',x.trans r,k1,k2,k3,k4⟩
 |brk=>exact h
 |cont=>exact h
theorem TX.trans(x:RStep env R R')(h:TX g env sc nm R' s₀ E e s'):TX g env sc nm R s₀ E e s':=by
 obtain⟨a,cl,R2,V',H',fl,h1,r,k1,k2,k3,k4,k5⟩:=h;exact⟨a,cl,R2,V',H',fl,h1,x.trans r,k1,k2,k3,k4,k5⟩
theorem TN:swapsWith v (some (.Subscript o ix p)) l env=pure false:=by
 cases v<;>rfl
theorem NY(h:Gf v=true):swapsWith v t l env=pure false:=by
 cases v<;>first|rfl|exact Bool.noConfusion h
theorem Sf(hx:CP g sc nm e v):AE g sc nm (λg=>A4 g (.ret e)) (exec (.Return (some v) pos)):=λmd A env l₀ R V s₀ s H QN QR E ev fr S m q=>by
 dsimp only[A7,Bp,At,AP,Cz,BX,CT,Dq,Dz]at q;refine wpAny_Return_some (wpAny_mono ((hx md A R V env env l₀ s₀ ev fr).1 H s _ _ S m q) (λu s' z=>?_) λ_ _ z=>Dc fr z);obtain⟨av,H',hv,S',m',q'⟩:=z;exact⟨R,av,H',.refl,hv,S',m',q'⟩
theorem Yb:AE g sc nm (λg=>A4 g .pass) (exec (.Pass pos)):=λmd A env l₀ R V s₀ s H QN QR E ev fr S m q=>by
 dsimp only[A7,Bp,At,AP,Cz,BX,CT,Dq,Dz]at q;exact wpAny_Pass ⟨R,V,H,.refl,fr,S,m,q⟩
theorem Yg(hn:Gf v=true)(hx:CP g sc nm e v):AE g sc nm (λg=>A4 g (.expr e)) (exec (.Expr v pos)):=λmd A env l₀ R V s₀ s H QN QR E ev fr S m q=>by
 dsimp only[A7,Bp,At,AP,Cz,BX,CT,Dq,Dz]at q;refine wpAny_Expr_any (wpAny_mono ((hx md A R V env env l₀ s₀ ev fr).1 H s _ _ S m q) (λu s' z=>?_) λ_ _ z=>Dc fr z) (by unfold interactive;refine rl fr.kind ?_;rfl) (NY hn);obtain⟨av,H',hv,S',m',q'⟩:=z;exact⟨R,V,H',.refl,fr,S',m',q'⟩
theorem LQ(h:En sc nm (i::is) es=true):∃id p r,es = .Name id p::r/\nm[i]? =some id/\EI sc id=true/\En sc nm is r=true:=
 Ef (m:=λes=>∃id p r,es = .Name id p::r/\nm[i]? =some id/\EI sc id=true/\En sc nm is r=true) h λe r h=>
  Ix (m:=λe=>∃id p r',e::r = .Name id p::r'/\nm[i]? =some id/\EI sc id=true/\En sc nm is r'=true) (Aa h).1 λid p h1 h2=>⟨id,p,r,rfl,h1,h2,(Aa h).2⟩
theorem Vt(h:En sc nm is es=true):(assignEach es env).length=is.length/\(assignEach es env).findIdx? (·.1)=none:=by
 induction is generalizing es with
 |nil=>
  have:es=[]:=by cases es with|nil=>rfl|cons=>trivial
  subst this;exact⟨rfl,rfl⟩
 |cons i is ih=>
  refine e34 (LQ h) λid p r z13 _ _ h4=>?_;obtain rfl:=z13;exact Ap (ih h4) λi1 i2=>⟨congrArg Nat.succ i1,by show List.findIdx? _ ((false,_)::assignEach r env)=none;refine rl (List.findIdx?_cons) (rl i2 ?_);rfl⟩
set_option tactic.hygienic true in
theorem V4(nd:nm.Nodup)(h:En sc nm is es=true)(hv:VRs xs vs)(hl:xs.length=is.length)
  (fr:Frm R env sc nm V)(S:St c R H s.heap)(q:∀s' R',RStep env R R'->Frm R' env sc nm (Fi V is xs)->St c R' H s'.heap->Sm s s'->Q () s'):wpAny (model c.prog c.w) A (assignInOrder ((assignEach es env).map (·.2)) vs) Q E s:=by
 induction is generalizing es xs vs R V s with
 |nil=>
  have:es=[]:=by cases es with|nil=>rfl|cons=>trivial
  subst this;cases hv with
  |nil=>exact wpAny_pure (q s R .refl fr S ⟨_,_,rfl⟩)
  |cons=>cases hl
 |cons i is ih=>
  refine e34 (LQ h) λid p r z23 h2 h3 h4=>?_;obtain rfl:=z23;cases hv with
  |nil=>cases hl
  |cons hv1 hvr=>
  rename_i y v ys' vs';show wpAny _ A (do holding vs' (assign (.Name id p) env v);assignInOrder ((assignEach r env).map (·.2)) vs') Q E s;exact wpAny_bind (wpAny_holding (wpAny_assign_Name (GH fr nd h2 h3 hv1 S λs₁ R1 r₁ f₁ S₁ m₁=>ih h4 hvr (Nat.succ.inj hl) f₁ S₁ λs' R' r' f' S' m'=>q s' R' (r₁.trans r') f' S' (m₁.trans m'))))
theorem I7(h:Fo sc nm is e=true):∃es k p,e = .Tuple es k p/\En sc nm is es=true:=
 J1 (m:=λe=>∃es k p,e = .Tuple es k p/\En sc nm is es=true) h λes k p h=>⟨es,k,p,rfl,h⟩
theorem QT(hw:CI k y H P):∃p xs,y = .ref p/\(H p=some (.tuple xs)\/H p=some (.list xs))/\xs.length=k/\P xs:=by
 cases y with
 |ref p=>
  unfold CI at hw;dsimp only at hw;obtain⟨oo,e⟩:∃oo,H p=oo:=⟨_,rfl⟩
  rw[e]at hw;cases oo with
  |none=>exact hw.elim
  |some oo=>
  cases oo with
  |tuple xs=>exact⟨p,xs,rfl,.inl e,hw⟩
  |list xs=>exact⟨p,xs,rfl,.inr e,hw⟩
  |_=>exact hw.elim
 |_=>exact hw.elim
theorem Mz(C:c.Ok mg mb)(hh:A.handled=none)(nd:nm.Nodup)(h:Fo sc nm is e=true)(hv:VR x u)
  (hw:CI is.length x H P)(fr:Frm R env sc nm V)(S:St c R H s.heap)(q:∀s' R' xs,P xs->RStep env R R'->Frm R' env sc nm (Fi V is xs)->St c R' H s'.heap->Sm s s'->Q () s'):wpAny (model c.prog c.w) A (assign e env u) Q E s:=by
 refine e32 (I7 h) λes k pp z33 h=>?_;obtain rfl:=z33;refine e24 (QT hw) λp xs z42 hx hl hP=>?_;obtain rfl:=z42;cases hv;refine Ap (Vt (env:=env) h) λl1 l2=>e12 fr.ns λmL hL _=>rl (assign_Tuple ..) ?_;unfold unpack;exact rl l1 (rl l2 (rl hl.symm (wpAny_bind (wpAny_standAt (wpAny_bind (wpAny_holding (L9 C hh hL S hx λs₁ vs hvs S₁ m₁=>V4 nd h hvs hl fr S₁ λs' R' r' f' S' m'=>q s' R' xs hP r' f' S' (m₁.trans m'))))))))
theorem RX(C:c.Ok mg mb)(hh:A.handled=none)(nd:nm.Nodup)(h:Fy sc nm t e=true)(hv:VR x u)
  (hw:B_ t x V H P)(fr:Frm R env sc nm V)(S:St c R H s.heap)(q:∀s' R' V',P V'->RStep env R R'->Frm R' env sc nm V'->St c R' H s'.heap->Sm s s'->Q () s'):wpAny (model c.prog c.w) A (assign e env u) Q E s:=by
 cases t with
 |var i=>
  exact Ix (m:=λe=>wpAny (model c.prog c.w) A (assign e env u) Q E s) h λ_ _ h1 h2=>wpAny_assign_Name (GH fr nd h1 h2 hv S λs' R' r' f' S' m'=>q s' R' _ hw.2 r' f' S' m')
 |tup is=>exact Mz C hh nd h hv hw fr S λs' R' xs hP r' f' S' m'=>q s' R' _ hP r' f' S' m'
theorem O8{k p}:swapsWithSole [.Tuple es k p] v l env=pure false:=by
 show swapsWith v (some (.Tuple es k p)) l env=pure false;cases v<;>rfl
theorem Oq{k p}(h:M7 v=true):swappedStores [.Tuple es k p] v env=pure none:=by
 cases v<;>first|rfl|exact Bool.noConfusion h
theorem Sl{vs:List Expr}{f g}(h:∀x,f x=g x):vs.any f=vs.any g:=by rw[funext h]
theorem Nv{vs:List Expr}{f g:Expr->Option Str}(h:∀x,f x=g x):vs.filterMap f=vs.filterMap g:=by rw[funext h]
theorem RW{env:Env}{es vs:List Expr}{k p k' p'}(hb:env.blockKind = .function)(h:Fx env.scope es vs=true):swappedStores [.Tuple es k p] (.Tuple vs k' p') env=pure (some (Bz env.scope es)):=by
 unfold Fx at h;simp only[Bool.and_eq_true,Bool.not_eq_true',beq_iff_eq]at h;refine Ap h λz50 h7=>?_;obtain⟨⟨⟨⟨⟨h1,h2⟩,h3⟩,h4⟩,h5⟩,h6⟩:=z50;unfold swappedStores;dsimp only;have c1:(!(es.length==2||es.length==3)||vs.length != es.length||env.blockKind != .function)=false:=by
  rw[h1,h2,hb];simp
 rw[if_neg (by rw[c1];exact Bool.false_ne_true)];rw[if_neg (by rw[Sl (g:=QJ) (λx=>by cases x<;>rfl),h3];exact Bool.false_ne_true)];rw[Nv (g:=DQ env.scope ((es.head?.map (·.pos.line)).getD 0)) (λx=>by cases x<;>rfl)]
 change (if((Bz env.scope es).length != es.length||(Bz env.scope es).eraseDups.length != (Bz env.scope es).length)=true then _ else _)=_
 rw[if_neg (by rw[h4,h5,h4];simp),if_neg (by rw[h6];exact Bool.false_ne_true),if_neg (by rw[h7];exact Bool.false_ne_true)];rfl
theorem XE{α β:Type}{f:α->Option β}{l:List α}{x}(hx:x∈l)(h:f x=none):(l.filterMap f).length<l.length:=by
 induction l with
 |nil=>cases hx
 |cons a r ih=>
  have h2:(r.filterMap f).length<=r.length:=List.length_filterMap_le _ _;rw[filterMap_cons];rcases mem_cons.mp hx with rfl|hx
  ·rw[h];exact Nat.lt_succ_of_le h2
  ·have:=ih hx;cases f a with
   |none=>exact Nat.lt_succ_of_le h2
   |some b=>exact Nat.succ_lt_succ this
set_option tactic.hygienic true in
theorem WH{env:Env}{es:List Expr}{k p}(h:(Bz env.scope es).length≠es.length):swappedStores [.Tuple es k p] v env=pure none:=by
 by_cases hv:M7 v=true
 ·exact Oq hv
 cases v<;>first|exact absurd rfl hv|skip
 rename_i vs k' p';unfold swappedStores;dsimp only;split
 ·rfl
 rw[Nv (g:=DQ env.scope ((es.head?.map (·.pos.line)).getD 0)) (λx=>by cases x<;>rfl)];split
 ·rfl
 change (if((Bz env.scope es).length != es.length||(Bz env.scope es).eraseDups.length != (Bz env.scope es).length)=true then _ else _)=_
 rw[if_pos (by rw[Bool.or_eq_true];exact .inl (bne_iff_ne.mpr h))]
inductive SwT(sc:Scope)(nm:List Str):List Nat->List Str->Prop
 |nil:SwT sc nm [] []
 |cons {i is id ids}:nm[i]? =some id->EI sc id=true->SwT sc nm is ids->SwT sc nm (i::is) (id::ids)
theorem SwT.app(h:SwT sc nm is ids)(h':SwT sc nm js jds):SwT sc nm (is++js) (ids++jds):=by
 induction h with
 |nil=>exact h'
 |cons a b _ ih=>exact .cons a b ih
theorem SwT.rev(h:SwT sc nm is ids):SwT sc nm is.reverse ids.reverse:=by
 induction h with
 |nil=>exact .nil
 |cons a b _ ih=>rw[reverse_cons,reverse_cons];exact ih.app (.cons a b .nil)
theorem Vw(h:En sc nm is es=true)(hl:(es.filterMap (DQ sc l)).length=es.length)(hk:∀id,sc.names.lookup id=some .local->sc'.names.lookup id=some .local):es.filterMap (DQ sc' l)=es.filterMap (DQ sc l)/\SwT sc nm is (es.filterMap (DQ sc l))/\is.length=es.length:=by
 induction is generalizing es with
 |nil=>
  have:es=[]:=by cases es with|nil=>rfl|cons=>trivial
  subst this;exact⟨rfl,.nil,rfl⟩
 |cons i is ih=>
  refine e34 (LQ h) λid p r z63 h2 h3 h4=>?_;obtain rfl:=z63;by_cases c:(sc.names.lookup id==some .local&&p.line==l)=true
  ·have e1:DQ sc l (.Name id p)=some id:=if_pos c;have e2:DQ sc' l (.Name id p)=some id:=if_pos (by
    have:=Bool.and_eq_true_iff.mp c;rw[hk id (eq_of_beq this.1),this.2];rfl)
   rw[filterMap_cons,e1]at hl;refine Br (ih h4 (Nat.succ.inj hl)) λa b d=>?_;rw[filterMap_cons,filterMap_cons,e1,e2];exact⟨congrArg (id::·) a,.cons h2 h3 b,congrArg Nat.succ d⟩
  ·have e1:DQ sc l (.Name id p)=none:=if_neg c;rw[filterMap_cons,e1]at hl;have:(r.filterMap (DQ sc l)).length<=r.length:=List.length_filterMap_le _ _;have hl:(r.filterMap (DQ sc l)).length=r.length+1:=hl;lia
set_option tactic.hygienic true in
theorem V7(nd:nm.Nodup)(h:SwT sc nm is ids):∀{xs:List AV} {vs:List Value} {R:RR} {V:VV} {s:Shared},VRs xs vs->xs.length=is.length->Frm R env sc nm V->St c R H s.heap->(∀s' R',RStep env R R'->Frm R' env sc nm (Fi V is xs)->St c R' H s'.heap->Sm s s'->Q () s')->wpAny (model c.prog c.w) A (assignInOrder (ids.map λn=>bindName env n) vs) Q E s:=by
 induction h with
 |nil=>
  intro xs vs R V s hv hl fr S q;cases hv with
  |nil=>exact wpAny_pure (q s R .refl fr S ⟨_,_,rfl⟩)
  |cons=>trivial
 |cons h2 h3 _ ih=>
  intro xs vs R V s hv hl fr S q;cases hv with
  |nil=>trivial
  |cons hv1 hvr=>
   rename_i i is id ids _ y v ys' vs';show wpAny _ A (do holding vs' (bindName env id v);assignInOrder (ids.map λn=>bindName env n) vs') Q E s;exact wpAny_bind (wpAny_holding (wpAny_bindName (GH fr nd h2 h3 hv1 S λs₁ R1 r₁ f₁ S₁ m₁=>ih hvr (Nat.succ.inj hl) f₁ S₁ λs' R' r' f' S' m'=>q s' R' (r₁.trans r') f' S' (m₁.trans m'))))
theorem VRs.rev(h:VRs xs vs):VRs xs.reverse vs.reverse:=by
 induction h with
 |nil=>exact .nil
 |cons a _ ih=>rw[reverse_cons,reverse_cons];exact ih.append (.one a)
theorem Tw(C:g.c.Ok mg mb)(nd:nm.Nodup)(hn:F4 sc (.rtup is) tg v=true)(ht:Fo sc nm is tg=true)(hx:CP g sc nm e v):AE g sc nm (λg=>A4 g (.assign (.rtup is) e)) (exec (.Assign [tg] v pos)):=
 λmd A env l₀ R V s₀ s H QN QR E ev fr S m q=>by
 dsimp only[At,QU]at q;refine e32 (I7 ht) λes k pp z73 ht=>?_;obtain rfl:=z73;have hn:FK v (λvs _ _=>Fx sc es vs)=true:=hn;obtain⟨vs,k',pp',rfl,hb⟩:∃vs k' p',v = .Tuple vs k' p'/\Fx sc es vs=true:=J1 (m:=λv=>∃vs k' p',v = .Tuple vs k' p'/\Fx sc es vs=true) hn λvs k p h=>⟨vs,k,p,rfl,h⟩
 have hl:(Bz sc es).length=es.length:=by
  unfold Fx at hb;simp only[Bool.and_eq_true,beq_iff_eq]at hb;exact hb.1.1.1.2
 refine Br (Vw (sc':=env.scope) ht hl λid h=>fr.lco id h) λe1 e2 e3=>?_;have e1:Bz env.scope es=Bz sc es:=e1;have hb':Fx env.scope es vs=true:=by unfold Fx;rw[e1];exact hb
 have hk:env.blockKind = .function:=by unfold Env.blockKind;rw[fr.kind];rfl
 refine Assign_Tuple_swapped (names:=Bz sc es) (wpAny_mono ((hx md A R V env env l₀ s₀ ev fr).1 H s _ _ S m q) (λu s₁ z=>?_) λ_ _ z=>Dc fr z) O8 (by rw[RW hk hb',e1]);obtain⟨av,H',hv,S',m',hmd,q'⟩:=z;refine e24 (QT q') λp xs z82 hx' hxl hP=>?_;obtain rfl:=z82;cases hv;refine e12 fr.ns λmL hL _=>?_;rw[show(Bz sc es).length=xs.length from by rw[hl,<-e3,hxl]];exact L9 C (ev.aok.hand hmd) hL S' hx' λs₂ ws hws S₂ m₂=>V7 nd (show SwT sc nm is (Bz sc es) from e2).rev hws.rev (by rw[List.length_reverse,List.length_reverse,hxl]) fr S₂ λs' R' r' f' S' m₃=>⟨R',_,H',r',f',S',(m'.trans m₂).trans m₃,hP⟩
set_option tactic.hygienic true in
theorem TA{is:List Nat}{e:X}{tg v:Expr}{pos}(C:g.c.Ok mg mb)(nd:nm.Nodup)(hn:F4 sc (.tup is) tg v=true)(ht:Fo sc nm is tg=true)(hx:CP g sc nm e v):AE g sc nm (λg=>A4 g (.assign (.tup is) e)) (exec (.Assign [tg] v pos)):=
 λmd A env l₀ R V s₀ s H QN QR E ev fr S m q=>by
 dsimp only[A7,Bp,At,AP,Cz,BX,CT,Dq,Dz,tv,AC,AM,Dm]at q;refine e32 (I7 ht) λes k pp z93 _=>?_;obtain rfl:=z93;have hs:swappedStores [.Tuple es k pp] v env=pure none:=by
  rcases Bool.or_eq_true_iff.mp hn with hn|hn
  ·exact Oq hn
  ·refine e12 (any_eq_true.mp (show es.any (QQ sc)=true from hn)) λx hx hc=>WH (ne_of_lt (XE hx ?_));cases x<;>first|exact Bool.noConfusion hc|skip
   rename_i id p;have:=fr.cco id (eq_of_beq hc);exact if_neg (by rw[show env.scope.names.lookup id=some .cell from this];simp)
 refine Assign_Tuple (wpAny_mono ((hx md A R V env env l₀ s₀ ev fr).1 H s _ _ S m q) (λu s₁ z=>?_) λ_ _ z=>Dc fr z) O8 hs;obtain⟨av,H',hv,S',m',hmd,q'⟩:=z;exact Mz C (ev.aok.hand hmd) nd ht hv q' fr S' λs₂ R' xs hP r' f' S₂ m₂=>⟨R',_,H',r',f',S₂,m'.trans m₂,hP⟩
theorem T9(nd:nm.Nodup)(hn:Gf v=true)(ht:G' sc nm i tg=true)(hx:CP g sc nm e v):AE g sc nm (λg=>A4 g (.assign (.var i) e)) (exec (.Assign [tg] v pos)):=
 λmd A env l₀ R V s₀ s H QN QR E ev fr S m q=>by
 dsimp only[A7,Bp,At,AP,Cz,BX,CT,Dq,Dz,tv,AC,AM,Dm]at q;refine Ix (m:=λtg=>wpAny (model g.c.prog g.c.w) A (exec (.Assign [tg] v pos) env) (TF g env sc nm R s₀ QN QR) (TX g env sc nm R s₀ E) s) ht λid p h1 h2=>wpAny_Assign_Name (wpAny_mono ((hx md A R V env env l₀ s₀ ev fr).1 H s _ _ S m q) (λu s₁ z=>?_) λ_ _ z=>Dc fr z) (NY hn);obtain⟨av,H',hv,S',m',_,q'⟩:=z;exact GH fr nd h1 h2 hv S' λs₂ R' r f' S₂ m₂=>⟨R',_,H',r,f',S₂,m'.trans m₂,q'⟩
theorem Frm.drop(f:Frm R' env sc nm V')(fr:Frm R env sc nm V)(hCa:R Ca=none):Frm (BQ R' Ca) env sc nm V':=by
 obtain⟨k1,k2,k3,k4,k5,k6,k7,kc,kl,k8,⟨m,n1,n2⟩,k9⟩:=f;refine e12 fr.ns λm' n1' _=>⟨k1,k2,k3,k4,k5,k6,k7,kc,kl,k8,⟨m,by refine rl (CQ (λz=>by rw[z,hCa]at n1';trivial)) ?_;exact n1,n2⟩,λi n hn hk=>?_⟩
 refine e33 (k9 i n hn hk) λa x v c1 c2 c3=>e33 (fr.cell i n hn hk) λa' x' v' c1' c2' c3'=>?_;rw[c1]at c1';obtain rfl:=Ak c1';exact⟨a,x,v,c1,by refine rl (CQ (λz=>by rw[z,hCa]at c2';trivial)) ?_;exact c2,c3⟩
theorem RStep.drop(x:RStep env R R'):RStep env (BQ R a) (BQ R' a):=λb=>by
 by_cases z:b=a
 ·subst z;left;exact rl E_ (rl E_ rfl)
 ·exact rl (CQ z) (rl (CQ z) (x b))
theorem Tx(C:g.c.Ok mg mb)(htg:DZ ctg tup ts)(nd:nm.Nodup)(ht:G' sc nm i tg=true)(hm:Ee sc csc nm ts=true)
  (hf:GW iter=true)(hit:CP g sc nm it iter)(hx:∀md,XOk {g with md:=md} csc (C6 nm ts++ts) x elt)(hc:∀md,EP {g with md:=md} csc (C6 nm ts++ts) c ifs)
  (hcm:CP g sc nm (.comp x ts.length tup it c) (.ListComp elt [⟨ctg,iter,ifs,0⟩] csc pos)):AE g sc nm (λg=>A4 g (.assign (.var i) (.comp x ts.length tup it c))) (exec (.Assign [tg] (.ListComp elt [⟨ctg,iter,ifs,0⟩] csc pos) spos)):=
 λmd A env l₀ R V s₀ s H QN QR E ev fr S m q=>by
 dsimp only[A7,Bp,At,AP,Cz,BX,CT,Dq,Dz,tv,AC,AM,Dm]at q;refine Ix (m:=λtg=>wpAny (model g.c.prog g.c.w) A (exec (.Assign [tg] (.ListComp elt [⟨ctg,iter,ifs,0⟩] csc pos) spos) env) (TF g env sc nm R s₀ QN QR) (TX g env sc nm R s₀ E) s) ht λid p h1 h2=>?_;obtain⟨b,hsw⟩:∃b,swapsWith (.ListComp elt [⟨ctg,iter,ifs,0⟩] csc pos) (some (.Name id p)) spos.line env=pure b:=⟨_,rfl⟩
 cases b with
 |false=>
  refine wpAny_Assign_Name (wpAny_mono ((hcm md A R V env env l₀ s₀ ev fr).1 H s _ _ S m q) (λu s₁ z=>?_) λ_ _ z=>Dc fr z) hsw;obtain⟨av,H',hv,S',m',_,q'⟩:=z;exact GH fr nd h1 h2 hv S' λs₂ R' r f' S₂ m₂=>⟨R',_,H',r,f',S₂,m'.trans m₂,q'⟩
 |true=>
  dsimp only[Aq,Ad,Av,Bo,AF,Am,Ar,Bd,Au,Bf,A_,A6,A1,Ax,Ba,AB,AN,BP,Bg,BU,BO,BE,Bl]at q;refine Ap q λhmd q=>rl (exec_Assign_Name_used _ _ _ _ hsw)<|wpAny_bind (wpAny_standAt (wpAny_bind ?_));show wpAny _ A (do let _ <-comprehension (.ListComp elt [⟨ctg,iter,ifs,0⟩] csc pos) csc env _ (newList []) false (eval iter env) (some (assign (.Name id p) env))) _ _ s;refine wpAny_bind (wpAny_mono (wpAny_comprehension_free (use:=some (assign (.Name id p) env)) (Q:=λ_ s'=>TF g env sc nm R s₀ QN QR .next s') rfl (Lx hf) (O_ fr hm) (I5 hm).1 (I5 hm).2.2 ?_)
   (λ_ s' hq=>wpAny_pure (wpAny_pure hq)) λ_ _ e=>e)
  refine wpAny_mono ((hit md A R V env env l₀ s₀ ev fr).1 H s _ (λcl H=>E cl V H) S m q) (λu s₁ z=>?_) λ_ _ z=>Dc fr z;obtain⟨av,H₁,hv,S₁,m₁,xs,hxs,hz,I,hI,hstep⟩:=z;refine O2 (g:={g with md:=md}) (I:=I) (RR':=λacc Ca=>compPost (model g.c.prog g.c.w) A (TX g env sc nm R s₀ E) (some (assign (.Name id p) env)) (λ_ s'=>TF g env sc nm R s₀ QN QR .next s') acc Ca) C htg (ev.aok.hand hmd) ev fr hm (hx md) (hc md) hv S₁ m₁ hxs hz hI (λk acc H' hi=>⟨(hstep k acc H' hi).1,(hstep k acc H' hi).2.2⟩) ?_;intro D Ca acc H' s' m' hCa hi hd S' ms';have f₁:Frm (AY R Ca (.ns m')) env sc nm V:=fr.congr λb hb=>AK λz=>by
   rw[z]at hb;rcases hb with⟨_,hb⟩|⟨_,hb⟩<;>(rw[hCa]at hb;trivial)
  show wpAny _ A (assign (.Name id p) env (.ref D)) _ _ _;refine wpAny_assign_Name (GH f₁ nd h1 h2 (.ref D) S' λs₂ R' r f' S₂ m₂=>e11 (r.ns Be) λm'' hm''=>⟨m'',(S₂.res Ca _ hm'').2,λh' hs'=>?_⟩);have hRR:BQ (AY R Ca (.ns m')) Ca=R:=by
   funext b
   by_cases z:b=Ca
   ·subst z;exact rl E_ (rl hCa rfl)
   ·exact rl (CQ z) (rl (AK z) rfl)
  have rd:=r.drop (a:=Ca);rw[hRR]at rd;exact⟨BQ R' Ca,_,_,rd,f'.drop fr hCa,S₂.dropAny hm'' hs'.extBut (rl hs'.1 S₂.size),(ms'.trans m₂).heap _,((hstep _ acc H' hi).2.1 rfl D hd).2⟩
theorem M'(hc:CP g sc nm c t)(ha:AE g sc nm (λg=>Af g a) (execs x))(hb:AE g sc nm (λg=>Af g b) (execs y)) :
  AE g sc nm (λg=>A4 g (.ite c a b)) (exec (.If t x y pos)):=λmd A env l₀ R V s₀ s H QN QR E ev fr S m q=>by
 dsimp only[A7,Bp,At,AP,Cz,BX,CT,Dq,Dz]at q;refine wpAny_If (wpAny_mono ((hc md A R V env env l₀ s₀ ev fr).2 H s (λ_ t H=>if t then Af {g with md:=md} a QN QR E V H else Af {g with md:=md} b QN QR E V H) (λcl H=>E cl V H) S m q) (λu s' z=>?_) λ_ _ z=>Dc fr z);obtain⟨v,H',S',m',q',_⟩:=z;cases u with
 |true=>exact ha md A env l₀ R V s₀ s' H' QN QR E ev fr S' m' (by simpa using q')
 |false=>exact hb md A env l₀ R V s₀ s' H' QN QR E ev fr S' m' (by simpa using q')
theorem XY:AE g sc nm (λg=>Af g []) (execs []):=λmd A env l₀ R V s₀ s H QN QR E ev fr S m q=>by
 dsimp only[Ci,BG]at q;exact wpAny_execs_nil ⟨R,V,H,.refl,fr,S,m,q⟩
theorem WL{st}(h:AE g sc nm (λg=>A4 g st) (exec t))(hr:AE g sc nm (λg=>Af g r) (execs u)):AE g sc nm (λg=>Af g (st::r)) (execs (t::u)):=
 λmd A env l₀ R V s₀ s H QN QR E ev fr S m q=>by
 dsimp only[Ci,BG]at q;refine wpAny_execs_cons (wpAny_mono (h md A env l₀ R V s₀ s H _ QR E ev fr S m q) (λf s' z=>?_) λ_ _ z=>z);cases f with
 |next=>
  obtain⟨R',V',H',r',f',S',m',q'⟩:=z;exact wpAny_mono (hr md A env l₀ R' V' s₀ s' H' QN QR E (ev.step r') f' S' m' q') (λ_ _ z=>z.trans r') λ_ _ z=>z.trans r'
 |ret v=>exact z
 |brk=>exact z
 |cont=>exact z
set_option tactic.hygienic true in
theorem Va(hf:env.frame=some env.locals)(X:ExcSt g.c R H a cl (rawInt env.locals) s.heap)
  (q:∀h',ExcSt g.c R H a cl (rawInt env.locals) h'->E (.ref a) {s with heap:=h'}):cameBackBy M A env E (.ref a) s:=by
 unfold cameBackBy;have X':=X;refine e12 X' λH₁ z111 _=>?_;obtain⟨st,re,he,be,ob,kn⟩:=z111;cases ob with
 |traced h1 h2 h3 h4 h5 h6 h7 h8 h9 h10 h11 h12 h13=>
  rename_i oe vs T oT ts a0;exact wpAny_bind (wpAny_field h1 h3 h5 (rl (if_neg (show ¬ ((Value.ref T==Value.none)=true) from by simp)) (rl hf (Ly X (by simp[rawInt]) λh' X2=>q h' X2))))
theorem Jw(ev:Ev {g with md:=md} A R env l₀)(h:TX g env sc nm R s₀ E e s) :
  notedBy M A env (λe s'=>cameBackBy M A env (TX g env sc nm R s₀ E) e s') e s:=by
 obtain⟨a,cl,R',V',H',fl,rfl,r,fr,hfl,X,m,q⟩:=h;exact PK ev.aok.frames (r.stk ev.stk) X hfl λh₁ X1=>Va (g:=g) (s:={s with heap:=h₁}) (ev.stk env (.head _)).frame X1 λh₂ X2=>⟨a,cl,R',V',H',_,rfl,r,fr,.inr (.inr rfl),X2,m.trans ⟨_,_,rfl⟩,q⟩
theorem WN(hc:CP g sc nm c t)(hb:AE g sc nm (λg=>Af g b) (execs x)):AE g sc nm (λg=>A4 g (.while c b)) (exec (.While t x [] pos)):=
 λmd A env l₀ R V s₀ s H QN QR E ev fr S m q=>by
 dsimp only[CT,MD]at q;obtain⟨_,I,⟨n,hI⟩,hstep⟩:=q;refine wpAny_While (codeAny_whileLoop (λn s=>∃R' V' H',RStep env R R'/\Frm R' env sc nm V'/\St g.c R' H' s.heap/\Sm s₀ s/\I n V' H') ?_ n ⟨R,V,H,.refl,fr,S,m,hI⟩);rintro n s₁ ⟨R',V',H',r,f',S',m',hi⟩;have ev':=ev.step r;refine wpAny_mono ((hc md A R' V' env env l₀ s₀ ev' f').2 H' s₁ (λ_ b₁ H''=>if b₁ then Af {g with md:=md} b (λV₂ H₂=>∃m,m<n/\I m V₂ H₂) QR E V' H'' else QN V' H'') (λcl H=>E cl V' H) S' m' (hstep n V' H' hi)) (λu s₂ z=>?_) λ_ _ z=>Jw ev (TX.trans r (Dc f' z));obtain⟨v,H₂,S₂,m₂,q₂,_⟩:=z;cases u with
 |true=>
  dsimp only[if_true]at q₂⊢;refine wpAny_mono (hb md A env l₀ R' V' s₀ s₂ H₂ _ QR E ev' f' S₂ m₂ q₂) (λfl s₃ z=>?_) λ_ _ z=>Jw ev (TX.trans r z);cases fl with
  |next=>
   obtain⟨R3,V3,H₃,r₃,f₃,S3,m₃,k,hk,q₃⟩:=z;exact⟨k,hk,R3,V3,H₃,r.trans r₃,f₃,S3,m₃,q₃⟩
  |ret v=>exact TF.trans r z
  |brk=>exact z.elim
  |cont=>exact z.elim
 |false=>
  dsimp only[Bool.false_eq_true,if_false]at q₂⊢;exact wpAny_execs_nil ⟨R',V',H₂,r,f',S₂,m₂,q₂⟩
theorem Nb(ht:Fy sc nm t tg=true):Jr tg:=by
 cases t with
 |var i=>exact Ix (m:=Jr) ht λid p _ _=>.inl ⟨id,p,rfl⟩
 |tup is=>refine e32 (I7 ht) λes k p z143 _=>?_;obtain rfl:=z143;exact .inr ⟨es,k,p,rfl⟩
inductive Ho(c:Cx)(env:Env)(sc:Scope)(nm:List Str)(R:RR)(s₀:Shared)(a:Addr)(av:AV)(l:Nat)(I:Nat->VV->Ac->Prop)(n:Nat)(s:Shared):Prop
 |mk (k:Nat) (R':RR) (V':VV) (H':Ac) (o':Obj) (hn:n=l - k) (hk:k<=l) (hR:R' a=some (.obj o')) (it:ItObj H' av k o') (r:RStep env R (BQ R' a)) (f:Frm R' env sc nm V') (S:St c R' H' s.heap) (m:Sm s₀ s) (q:I k V' H'):Ho c env sc nm R s₀ a av l I n s
theorem Pm:BQ (AY R a r) a=BQ R a:=by
 funext b
 by_cases z:b=a
 ·subst z;exact rl E_ (rl E_ rfl)
 ·exact rl (CQ z) (rl (CQ z) (rl (AK z) rfl))
theorem Q0{R:RR}(h:R a=some (.obj o))(hb:(∃m,R b=some (.ns m))\/∃x,R b=some (.cell x)):b≠a:=λz=>by
 rw[z,h]at hb;rcases hb with⟨_,hb⟩|⟨_,hb⟩<;>cases hb
theorem Frm.dropO(h:R a=some (.obj o))(f:Frm R env sc nm V):Frm (BQ R a) env sc nm V:=f.congr λb hb=>CQ (Q0 h hb)
theorem Ev.dropO(ev:Ev g A R env l₀)(r:RStep env R (BQ R2 a)):Ev g A R2 env l₀:=⟨ev.aok,λe he=>by
 have F:=ev.stk e he;refine e11 F.ns λmm hm=>e11 (r.ns hm) λm' hm'=>?_;exact⟨F.kind,F.frame,F.gen,F.co,F.blt,F.glob,m',GC _ _ hm'⟩⟩
theorem TX.dropO(h:R2 a=some (.obj o₂))(r:RStep env R (BQ R2 a))(t:TX g env sc nm R2 s₀ E e s'):TX g env sc nm R s₀ E e s':=by
 obtain⟨b,cl,R3,V3,H₃,fl,e1,r₃,f₃,hfl,X,m,q⟩:=t;exact⟨b,cl,BQ R3 a,V3,H₃,fl,e1,r.trans r₃.drop,f₃.dropO (r₃.obj h),hfl,X.weaken GC,m,q⟩
set_option tactic.hygienic true in
theorem SB(C:g.c.Ok mg mb)(nd:nm.Nodup)(hn:GW iter=true)(ht:Fy sc nm t tg=true)(hi:CP g sc nm it iter)(hb:AE g sc nm (λg=>Af g b) (execs x)) :
  AE g sc nm (λg=>A4 g (.for t it b)) (exec (.For tg iter x [] pos)):=λmd A env l₀ R V s₀ s H QN QR E ev fr S m q=>by
 dsimp only[A7,Bp,At,AP,Cz,BX,CT,Dq,Dz]at q;refine Ap q λhmd q=>?_;subst hmd
 ·refine wpAny_For (wpAny_mono ((hi true A R V env env l₀ s₀ ev fr).1 H s _ (λcl H=>E cl V H) S m q) (λu s₁ z=>?_) λ_ _ z=>Dc fr z) (Lx hn);obtain⟨av,H₁,hv,S₁,m₁,xs,hxs,I,hI,hstep⟩:=z;refine MA C hv S₁ hxs λs₂ a o ha hHa ho S₂ m₂=>?_;have hsv:∀y,av = .str y->PyData.strOk y=true:=by rintro y rfl;cases hv;assumption
  have hna:∀b,(∃m,R b=some (.ns m))\/(∃x,R b=some (.cell x))->b≠a:=by rintro b (⟨m,h⟩|⟨m,h⟩) rfl<;>(rw[ha]at h;trivial)
  have ft:Frm (AY R a (.obj o)) env sc nm V:=fr.congr λb hb=>AK (hna b hb);refine codeAny_forLoop_any (Ho g.c env sc nm R s₀ a av xs.length I) ?_ xs.length
   ⟨0,AY R a (.obj o),V,H₁,o,by lia,zero_le _,Be,ho,λb=>.inl ?_,ft,S₂,m₁.trans m₂,hI⟩
  ·rintro n s₃ ⟨k,R',V',H',o',hn',hk,hR',hit,hrs,f',S',m',hi'⟩;refine Br (hstep k V' H' hi') λhsame hend hturn=>?_;have hxs':=Ow hsame hxs;rcases lt_or_ge k xs.length with hlt|hge
   ·obtain⟨xv,hx⟩:∃xv,xs[k]? =some xv:=⟨xs[k],by simp[hlt]⟩
    refine Mm hxs' hx hit hR' S' hsv λs₄ u₄ o₂ hvx ho2 S₄ m₄=>?_;have r₄:RStep env R (BQ (AY R' a (.obj o₂)) a):=by exact rl Pm hrs
    have f₄:Frm (AY R' a (.obj o₂)) env sc nm V':=f'.congr λb hb=>AK (Q0 hR' hb);have hst:=hturn xv hx;refine Ps (Nb ht) ho2 ((S₄.res _ _ Be).2)<|RX C (ev.aok.hand rfl) nd ht hvx hst f₄ S₄ λs5 R5 V5 hst r₅ f₅ S₅ m5=>?_;have h₅:=r₅.obj (Be (R:=R'));have rr:=r₄.trans r₅.drop;refine wpAny_mono (hb true A env l₀ R5 _ s₀ s5 H' _ QR E (Ev.dropO (g:={g with md:=true}) ev rr) f₅ S₅ ((m'.trans m₄).trans m5) hst) (λfl s6 z=>?_) λ_ _ z=>Jw ev (TX.dropO h₅ rr z);cases fl with
    |next=>
     obtain⟨R6,V6,H₆,r₆,f₆,S₆,m6,q₆⟩:=z;refine⟨xs.length - (k+1),Ni hlt hn',k+1,R6,V6,H₆,o₂,rfl,hlt,r₆.obj h₅,?_,rr.trans r₆.drop,f₆,S₆,m6,q₆⟩;exact ho2.same2 hsame (hstep (k+1) V6 H₆ q₆).1
    |ret v=>
     obtain⟨R6,av6,H₆,r₆,hv₆,S₆,m6,q₆⟩:=z;exact⟨BQ R6 a,av6,H₆,rr.trans r₆.drop,hv₆,S₆.weaken GC,m6,q₆⟩
    |brk=>exact z.elim
    |cont=>exact z.elim
   ·exact e12 f'.ns λmm hmm _=>M2 (ev.aok.hand rfl) hxs' (by simp;lia) hit hR' hmm S' λs₄ S₄ m₄=>wpAny_execs_nil ⟨BQ R' a,V',H',hrs,f'.dropO hR',S₄,m'.trans m₄,hend (Nat.le_antisymm hk hge)⟩
  ·refine rl Pm ?_;by_cases z:b=a
   ·subst z;exact rl E_ (rl ha rfl)
   ·exact rl (CQ z) rfl
end
theorem St1.shift{W:List Addr}(S:St1 c R H h)(hW:∀b∈W,∃y,R b=some (.obj y))(keep:∀b o,b∉W->h.get? b=some o->h'.get? b=some o)(hsz:c.base.objs.size<=h'.objs.size)
  (hR:∀b r,R' b=some r->(b∉W/\R b=some r)\/∃x,r = .obj x/\h'.get? b=some x/\(b∈W\/h.objs.size<=b)):St1 c R' H h':=by
 obtain⟨s1,s2,s3,D,s4⟩:=S;have nW:∀{b},R b=none->b∉W:=λhn hb=>by refine e11 (hW _ hb) λy hy=>?_;rw[hn]at hy;trivial
 have nn:∀{a},(∃ob,h.get? a=some ob)->R a=none->R' a=none:=λ{a} ⟨ob,e⟩ hn=>by
  cases q:R' a with
  |none=>rfl
  |some r=>
   rcases hR a r q with⟨_,k⟩|⟨x,_,_,k|k⟩
   ·rw[hn]at k;trivial
   ·exact absurd k (nW hn)
   ·have:=BR e;have:=CB k;lia
 refine⟨λb o e=>keep b o (λhb=>?_) (s1 b o e),hsz,λb r e=>?_,D,⟨λa ao e=>?_,λa ao e=>?_,λa cl es e=>?_,s4.inj⟩⟩
 ·refine e11 (hW b hb) λy hy=>?_;have:=CB (s3 b _ hy).1;have:=BR e;lia
 ·rcases hR b r e with⟨hb,k⟩|⟨x,rfl,hx,k⟩
  ·exact⟨(s3 b r k).1,(s3 b r k).2.agree λob=>keep b ob hb⟩
  ·refine⟨?_,hx⟩;rcases k with k|k
   ·refine e11 (hW b k) λy hy=>?_;exact(s3 b _ hy).1
   ·exact le_trans s2 k
 ·refine(s4.rep a ao e).agree (λob=>keep a ob (nW (s4.above a ao e).2)) λcl es eo=>⟨rfl,λob=>keep _ ob (nW ?_)⟩
  subst eo;exact(s4.dict a cl es e).2.1
 ·exact⟨(s4.above a ao e).1,nn (s4.rep a ao e).there (s4.above a ao e).2⟩
 ·refine Br (s4.dict a cl es e) λy1 y2 y3=>?_;obtain⟨_,ents,n,w,_⟩:=s4.rep a _ e;exact⟨y1,nn ⟨_,w⟩ y2,y3⟩
theorem St.shift{W:List Addr}(S:St c R H h)(hW:∀b∈W,∃y,R b=some (.obj y))(keep:∀b o,b∉W->h.get? b=some o->h'.get? b=some o)(hsz:c.base.objs.size<=h'.objs.size)
  (hR:∀b r,R' b=some r->(b∉W/\R b=some r)\/∃x,r = .obj x/\h'.get? b=some x/\(b∈W\/h.objs.size<=b)):St c R' H h':=let ⟨H₁,s,r⟩:=S;⟨H₁,s.shift hW keep hsz hR,r⟩
theorem St.mono(S:St c R H' h)(k:∀a x,H a=some x->H' a=some x):St c R H h:=let ⟨H₁,s,r1,o,f⟩:=S;⟨H₁,s,r1,o,λa x e=>f a x (k a x e)⟩
noncomputable def SE(a b:Value):Obj:={cls:=.type "tuple",data:=.seq #[a,b]}
def Yu(l:Addr)(k:Nat)(o:Obj):Prop:=o.cls = .type "list_iterator"/\o.data = .fields #[.ref l,.int k 0]
noncomputable def rdl(R:RR)(W:List Addr):RR:=λb=>if b∈W then none else R b
theorem M0:∀b r,rdl R W b=some r->R b=some r:=λb r e=>by
 unfold rdl at e;split at e
 ·trivial
 ·exact e
theorem GO(h:b∈W):rdl R W b=none:=if_pos h
theorem Gk(h:b∉W):rdl R W b=R b:=if_neg h
theorem RStep.rdl(x:RStep env R R'):RStep env (Internal.rdl R W) (Internal.rdl R' W):=λb=>by
 by_cases h:b∈W
 ·exact .inl (by exact rl (GO h) (rl (GO h) rfl))
 ·exact rl (Gk h) (rl (Gk h) (x b))
section
variable{g:Gx}{A:Around}{R:RR}{H:Ac}{E:Value->Shared->Prop}{s:Shared}{xs ys:List AV}{mL:Str->Option Value}
theorem MV(hL:R L=some (.ns mL))(S:St g.c R H s.heap){h':Heap}(k:∀o,s.heap.get? L=some o->h'.get? L=some o):g.c.base.objs.size<=h'.objs.size:=by
 exact e32 ((S.res _ _ hL).2) λoL es ep w _=>le_of_lt (lt_of_le_of_lt (CB (S.res _ _ hL).1) (BR (k oL w)))
end
noncomputable def IU(it:Addr)(i:Int)(old:Value):Obj:={cls:=.type "enumerate",dict:=none,data:=.fields #[.none,.bool false,.ref it,rawInt i,.none,old],slots:=#[]}
structure ER(R:RR)(e it l:Addr)(k:Nat):Prop where
 e:∃old,R e=some (.obj (IU it k old))
 a:∃o,R it=some (.obj o)/\Yu l k o
theorem ER.step{env:Env}{R R':RR}{e it l}(r:RStep env R R')(Z:ER R e it l k):ER R' e it l k:=
 let ⟨a,hO⟩:=Z.e;let ⟨o1,h1,q1⟩:=Z.a
 ⟨⟨a,r.obj hO⟩,⟨o1,r.obj h1,q1⟩⟩
theorem ER.held{R:RR}{e it l}(Z:ER R e it l k):∀b∈[e,it],∃y,R b=some (.obj y):=λb hb=>by
 simp only[mem_cons,not_mem_nil,or_false]at hb;rcases hb with rfl|rfl
 ·refine e11 Z.e λ_ h=>?_;exact⟨_,h⟩
 ·refine e12 Z.a λ_ h _=>?_;exact⟨_,h⟩
section
variable{g:Gx}{A:Around}{R:RR}{H:Ac}{E:Value->Shared->Prop}{s:Shared}{xs:List AV}{mL:Str->Option Value}
theorem XG{es:List Expr}{x1}{pos:Pos}{u:AV}{P0:Shared->Prop}{Q:Value->Shared->Prop}(D:e≠it)(Z:ER R e it l k)(hL:R L=some (.ns mL))(S:St g.c R H s.heap)(h1:H l=some (.list xs))(hx:xs[k]? =some u)
  (q:∀s' T R',ER R' e it l (k+1)->(∀b,b∉[e,it]->R' b=R b)->H T=none->St g.c R' (up H T (.tuple [.int k,u])) s'.heap->Sm s s'->Q (.ref T) s') :
  wpAny (model g.c.prog g.c.w) A (pyNext (.ref e)) (λr s₁=>match r with
   |none=>P0 s₁
   |some w=>wpAny (model g.c.prog g.c.w) A (letOwnedTupleGo (.Tuple es x1 pos) (.ref e) w) (λ_ s₂=>Q w s₂) E s₁) E s:=by
 refine e23 (Cj S h1) λvs n1 k1 k2 k3=>e12 (k2.get hx) λp hp hpu=>e11 Z.e λold hO=>e12 Z.a λo1 ha q1=>?_;have held:=Z.held;refine wpAny_pyNext_enum_item (S.res _ _ hO).2 ⟨o1,(S.res _ _ ha).2,q1⟩ k3 (by simpa using hp) D λh' fz fa fT fs fk=>wpAny_letOwnedTupleGo_enum fz λh2' fz2 sb=>e12 fa λoa ga qa=>?_;have k2':∀c o,c≠e->h'.get? c=some o->h2'.get? c=some o:=λc o hc e=>by exact rl (sb.2 c hc) e
 have keep:∀c o,c∉[e,it]->s.heap.get? c=some o->h2'.get? c=some o:=λc o hc e=>by
  simp only[mem_cons,not_mem_nil,or_false,not_or]at hc;exact k2' c o hc.1 (fk c o hc.1 hc.2 e)
 have hLn:L∉[e,it]:=λh=>by refine e11 (held L h) λy hy=>?_;rw[hL]at hy;cases hy
 have h1':h2'.get? it=some oa:=k2' it _ D.symm ga
 let R':RR:=λb=>if b=e then some (.obj (IU it ((k:Int)+1) p)) else if b=it then some (.obj oa) else R b
 have rz:R' e=some (.obj (IU it ((k:Int)+1) p)):=if_pos rfl;have r1:R' it=some (.obj oa):=(if_neg D.symm).trans (if_pos rfl);have rn:∀b,b∉[e,it]->R' b=R b:=λb hb=>by
  simp only[mem_cons,not_mem_nil,or_false,not_or]at hb;exact(if_neg hb.1).trans (if_neg hb.2)
 generalize R'=R' at rz r1 rn;obtain⟨nT,ST⟩:=S.newObj (h':=s.heap.push (SE (.int k s.toks) p)) (o:=.tuple [.int k,u]) (le_refl _) (λ_ _ e=>Heap.get?_push_of_some _ e) (by refine rl (Heap.size_push ..) ?_;exact Dw) (λ_ _ e=>by trivial) λD=>⟨[.int k s.toks,p],_,Heap.get?_push_size _ rfl,.cons (.int ..) (.cons hpu .nil)⟩
 refine q _ _ R' ⟨⟨_,rz⟩,⟨_,r1,qa⟩⟩ rn nT (ST.shift held (λb o hb e=>?_) (MV hL S λo e=>keep L o hLn e) λb rr hbr=>?_) ⟨_,_,rfl⟩
 ·rcases Heap.get?_push_cases e with⟨rfl,rfl⟩|e
  ·exact k2' _ _ (λe=>hb (e▸.head _)) fT
  ·exact keep b o hb e
 ·by_cases hb:b∈[e,it]
  ·refine .inr ?_;have hb':=hb;simp only[mem_cons,not_mem_nil,or_false]at hb;rcases hb with rfl|rfl
   ·rw[rz]at hbr;obtain rfl:=Ak hbr;exact⟨_,rfl,fz2,.inl hb'⟩
   ·rw[r1]at hbr;obtain rfl:=Ak hbr;exact⟨_,rfl,h1',.inl hb'⟩
  ·exact .inl ⟨hb,by exact rl (Eq.symm (rn b hb)) hbr⟩
theorem Sh{P0:Shared->Prop}{Q:Value->Shared->Prop}(hh:A.handled=none)(Z:ER R e it l k)(hL:R L=some (.ns mL))(S:St g.c R H s.heap)(h1:H l=some (.list xs))(hx:xs[k]? =none)
  (q:∀s',St g.c (rdl R [e,it]) H s'.heap->Sm s s'->P0 s'):wpAny (model g.c.prog g.c.w) A (pyNext (.ref e)) (λr s₁=>match r with
   |none=>P0 s₁
   |some w=>Q w s₁) E s:=by
 refine e23 (Cj S h1) λvs n1 k1 k2 k3=>e11 Z.e λold hO=>e12 Z.a λo1 ha q1=>?_;have held:=Z.held;have hLn:L∉[e,it]:=λh=>by refine e11 (held L h) λy hy=>?_;rw[hL]at hy;cases hy
 refine wpAny_pyNext_enum_end hh (S.res _ _ hO).2 ⟨o1,(S.res _ _ ha).2,q1⟩ k3 ?_ λh' fk=>?_
 ·have hl:=k2.length;have:=List.getElem?_eq_none_iff.mp hx;exact Array.getElem?_eq_none_iff.mpr (rl size_toArray (rl hl.symm this))
 ·have keep:∀c o,c∉[e,it]->s.heap.get? c=some o->h'.get? c=some o:=λc o hc e=>by
   simp only[mem_cons,not_mem_nil,or_false,not_or]at hc;exact fk c o hc.2 e
  refine q _ (S.shift held keep (MV hL S λo e=>keep L o hLn e) λb r hb=>?_) ⟨_,_,rfl⟩;by_cases hm:b∈[e,it]
  ·rw[GO hm]at hb;trivial
  ·rw[Gk hm]at hb;exact .inl ⟨hm,hb⟩
theorem Sg(hL:R L=some (.ns mL))(S:St g.c R H s.heap)(h1:H l=some (.list xs))
  (q:∀s' R' e it,e≠it->ER R' e it l 0->(∀b,b∉[e,it]->R' b=R b)->(∀b∈[e,it],R b=none)->St g.c R' H s'.heap->Sm s s'->Q (.ref e) s') :
  wpAny (model g.c.prog g.c.w) A (call (.type "enumerate") [.ref l]) (λu s₁=>wpAny (model g.c.prog g.c.w) A (pyIter u) Q E' s₁) E s:=by
 refine e23 (Cj S h1) λvs n1 k1 k2 k3=>?_;have t1:=BR k1;refine call_enumerate_list k3 λh' fz fa fs fk=>wpAny_pyIter_enum fz ?_;have D:s.heap.objs.size+1≠s.heap.objs.size:=by lia
 generalize hz:s.heap.objs.size+1=e at*;generalize h1:s.heap.objs.size=it at*;refine e12 fa λoa ga qa=>?_;have ge:∀b∈[e,it],s.heap.objs.size<=b:=λb hb=>by
  simp only[mem_cons,not_mem_nil,or_false]at hb;rcases hb with rfl|rfl<;>lia
 have non:∀b∈[e,it],R b=none:=λb hb=>S.freeR (ge b hb)
 let R':RR:=λb=>if b=e then some (.obj (IU it 0 .none)) else if b=it then some (.obj oa) else R b
 have rz:R' e=some (.obj (IU it 0 .none)):=if_pos rfl;have r1:R' it=some (.obj oa):=(if_neg D.symm).trans (if_pos rfl);have rn:∀b,b∉[e,it]->R' b=R b:=λb hb=>by
  simp only[mem_cons,not_mem_nil,or_false,not_or]at hb;exact(if_neg hb.1).trans (if_neg hb.2)
 generalize R'=R' at rz r1 rn;refine q _ R' e it D ⟨⟨_,rz⟩,⟨_,r1,qa⟩⟩ rn non (S.shift (W:=[]) (λb hb=>by trivial) (λb o _ e=>fk b o e) (MV hL S λo e=>fk L o e) λb r hb=>?_) ⟨_,_,rfl⟩;by_cases hm:b∈[e,it]
 ·refine .inr ?_;have hg:=ge b hm;simp only[mem_cons,not_mem_nil,or_false]at hm;rcases hm with e|e<;>rw[e]at hb hg⊢
  ·rw[rz]at hb;obtain rfl:=Ak hb;exact⟨_,rfl,fz,.inr hg⟩
  ·rw[r1]at hb;obtain rfl:=Ak hb;exact⟨_,rfl,ga,.inr hg⟩
 ·exact .inl ⟨not_mem_nil,by exact rl (Eq.symm (rn b hm)) hb⟩
end
inductive Hn(c:Cx)(env:Env)(sc:Scope)(nm:List Str)(R:RR)(s₀:Shared)(e it l:Addr)(n':Nat)(I:Nat->VV->Ac->Prop)(n:Nat)(s:Shared):Prop
 |mk (k:Nat) (R':RR) (V':VV) (H':Ac) (hn:n=n' - k) (hk:k<=n') (Z:ER R' e it l k) (r:RStep env R (rdl R' [e,it])) (f:Frm R' env sc nm V') (S:St c R' H' s.heap) (m:Sm s₀ s) (q:I k V' H'):Hn c env sc nm R s₀ e it l n' I n s
theorem Ye{i j:Nat}{a:X}{bd}{tg fe}{as}{x}{pos q'}(C:g.c.Ok mg mb)(PO:AZ g.c)(nd:nm.Nodup)(ht:Fo sc nm [i,j] tg=true)(hn:Cb sc "enumerate" fe=true)(hg:g.c.P.prims.contains "enumerate"=true)
  (hx:∀md,BC (λx e=>XOk {g with md:=md} sc nm x e/\CL e=true) [a] as)(hb:AE g sc nm (λg=>Af g bd) (execs x)):AE g sc nm (λg=>A4 g (.fore i j a bd)) (exec (.For tg (.Call fe as [] q') x [] pos)):=λmd A env l₀ R V s₀ s H QN QR E ev fr S m q=>by
 refine Ap q λhmd q=>?_;cases hmd;refine e32 (I7 ht) λes k0 pp z03 hts=>?_;obtain rfl:=z03;refine e12 fr.ns λmL hL _=>Br (PO.prim "enumerate" hg) λh1 h2 h3=>?_;refine e21 (HZ hn) λid p z12=>?_;obtain rfl:=z12;refine wpAny_For (wpAny_mono (E:=TE {g with md:=true} R s₀ λcl H=>E cl V H) (wpAny_Call_NameR (JZ C fr S hn h1 h2 h3 (Mr (g:={g with md:=true}) (.inr ⟨_,rfl⟩) (FD (g:={g with md:=true}) (hx true) ev fr) S m (Q':=λvs H=>match vs with|[x]=>NG QN (λu v nx V H=>Af {g with md:=true} bd nx QR E ((V.set i (some u)).set j (some v)) H) x V H|_=>False) q λas vs H₁ s₁ hv S₁ m₁ q₁=>?_))) (λ_ _ z=>z) λ_ _ z=>Dc fr z);cases hv with
 |nil=>exact q₁.elim
 |cons v1 hv=>
 cases hv with
 |cons=>exact q₁.elim
 |nil=>
 obtain⟨l,xs,rfl,e1,I,hI,hstep⟩:=q₁;cases v1;refine Sg hL S₁ e1 λs₂ R1 e it D Z rn non S₂ m₂=>?_;have nW:∀{R2:RR} {k:Nat},ER R2 e it l k->∀b,(∃m,R2 b=some (.ns m))\/(∃x,R2 b=some (.cell x))->b∉[e,it]:=λZ b hb hm=>by
  refine e11 (Z.held b hm) λy hy=>?_;rcases hb with⟨_,hb⟩|⟨_,hb⟩<;>(rw[hy]at hb;cases hb)
 have f1:Frm R1 env sc nm V:=fr.congr λb hb=>rn b λhm=>by
  have:=non b hm;rcases hb with⟨_,hb⟩|⟨_,hb⟩<;>(rw[this]at hb;trivial)
 refine codeAny_forLoop_any (Hn g.c env sc nm R s₀ e it l xs.length I) ?_ xs.length ⟨0,R1,V,H₁,by lia,zero_le _,Z,λb=>.inl ?_,f1,S₂,m₁.trans m₂,hI⟩
 ·rintro n s₃ ⟨k,R',V',H',hn',hk,Z',hrs,f',S',m',hi'⟩;refine Br (hstep k V' H' hi') λhl1 hend hturn=>?_;have hdrop:∀R2:RR,RStep env R (rdl R2 [e,it])->Dx R2 (env::l₀):=λR2 r e he=>by
   have F:=ev.stk e he;exact e11 F.ns λmm hm=>e11 (r.ns hm) λm' hm'=>⟨F.kind,F.frame,F.gen,F.co,F.blt,F.glob,m',M0 _ _ hm'⟩
  have evd:∀R2:RR,RStep env R (rdl R2 [e,it])->Ev {g with md:=true} A R2 env l₀:=λR2 r=>⟨ev.aok,hdrop R2 r⟩
  have frd:∀{R2:RR} {V₂:VV} {k:Nat},ER R2 e it l k->Frm R2 env sc nm V₂->Frm (rdl R2 [e,it]) env sc nm V₂:=λZ f=>f.congr λb hb=>Gk (nW Z b hb);refine e12 f'.ns λmm hmm _=>?_;rcases lt_or_ge k xs.length with hlt|hge
  ·refine XG D Z' hmm S' hl1 (getElem?_eq_getElem hlt) λs₄ T R4 Z4 rn4 nT S₄ m₄=>?_;have f₄:Frm R4 env sc nm V':=f'.congr λb hb=>rn4 b (nW Z' b hb);have r₄:RStep env R (rdl R4 [e,it]):=by
    have:rdl R4 [e,it]=rdl R' [e,it]:=by
     funext b
     by_cases hm:b∈[e,it]
     ·exact rl (GO hm) (rl (GO hm) rfl)
     ·exact rl (Gk hm) (rl (Gk hm) (rl (rn4 b hm) rfl))
    exact rl this hrs
   have hw:CI 2 (.ref T) (up H' T (.tuple [.int k,xs[k]])) λw=>w=[.int k,xs[k]]:=by
    unfold CI;dsimp only;exact rl Ah ⟨rfl,rfl⟩
   refine Mz C (ev.aok.hand rfl) nd ht (.ref T) hw f₄ S₄ λs5 R5 w hwe r₅ f₅ S₅ m5=>?_;subst hwe;have Z5:=Z4.step r₅;have rr:=r₄.trans r₅.rdl;have S₆:St g.c R5 H' s5.heap:=S₅.mono λa x h=>by refine rl (Ag (λe=>by rw[e,nT]at h;trivial)) ?_;exact h
   refine wpAny_mono (hb true A env l₀ R5 _ s₀ s5 H' _ QR E (evd R5 rr) f₅ S₆ ((m'.trans m₄).trans m5) (hturn _ (getElem?_eq_getElem hlt))) (λfl s6 zz=>?_) λ_ _ zz=>Jw ev ?_
   ·cases fl with
    |next=>
     obtain⟨R6,V6,H₆,r₆,f₆,S₆,m6,q₆⟩:=zz;exact⟨xs.length - (k+1),Ni hlt hn',k+1,R6,V6,H₆,rfl,hlt,Z5.step r₆,rr.trans r₆.rdl,f₆,S₆,m6,q₆⟩
    |ret v=>
     obtain⟨R6,av6,H₆,r₆,hv₆,S₆,m6,q₆⟩:=zz;exact⟨rdl R6 _,av6,H₆,rr.trans r₆.rdl,hv₆,S₆.weaken M0,m6,q₆⟩
    |brk=>exact zz.elim
    |cont=>exact zz.elim
   ·obtain⟨b,cl,R3,V3,H₃,fl,e1,r₃,f₃,hfl,X,m,q⟩:=zz;exact⟨b,cl,rdl R3 _,V3,H₃,fl,e1,rr.trans r₃.rdl,frd (Z5.step r₃) f₃,hfl,X.weaken M0,m,q⟩
  ·refine Sh (ev.aok.hand rfl) Z' hmm S' hl1 (List.getElem?_eq_none_iff.mpr hge) λs₄ S₄ m₄=>?_;exact wpAny_execs_nil ⟨rdl R' _,V',H',hrs,frd Z' f',S₄,m'.trans m₄,hend (Nat.le_antisymm hk hge)⟩
 ·by_cases hm:b∈[e,it]
  ·exact rl (GO hm) (rl (non b hm) rfl)
  ·exact rl (Gk hm) (rl (rn b hm) rfl)
section
variable{g:Gx}{sc:Scope}{nm:List Str}{mg mb:Str->Option Value}
set_option tactic.hygienic true in
theorem DRs.store(h:DRs es kvs)(hk:PyData.strOk k=true)(hv:VR x u):DRs (AI es k x) (stored kvs k u):=by
 have ha:(Bb es k).isSome=kvs.any (λkv=>kv.1=k):=by
  induction h with
  |nil=>rfl
  |cons h1 h2 _ ih=>
   unfold Bb at ih⊢;refine rl (find?_cons) (rl any_cons ?_);split
   ·rename_i z;simp at z;simp[z]
   ·rename_i z;simp at z;refine rl ih ?_;simp[z]
 unfold AI stored;refine rl ha ?_;split
 ·clear ha;rename_i z;clear z
  induction h with
  |nil=>exact .nil
  |cons h1 h2 _ ih=>
   rename_i k' a v as vs _;simp only[map_cons];by_cases z:k'=k
   ·simp only[z,if_true];exact .cons hk hv ih
   ·simp only[z,if_false];exact .cons h1 h2 ih
 ·clear ha;rename_i z;clear z
  induction h with
  |nil=>exact .cons hk hv .nil
  |cons h1 h2 _ ih=>exact .cons h1 h2 ih
theorem Uu(hv:VR x u)(hk:PyData.strOk k=true)(e:H p=some (.dict ep es))(hz:es.length<=sizeLine)
  (S:St g.c R H s.heap)(m:Sm s₀ s)(q:∀s' ep',St g.c R (up H p (.dict ep' (AI es k x))) s'.heap->Sm s₀ s'->Q () s'):wpAny (model g.c.prog g.c.w) A (setItem (.ref p) (.str k t) u) Q E s:=by
 obtain⟨kvs,hd,hr⟩:=DG S e;refine wpAny_setItem_pairs (strKind_is _ _ k t) hd.dictOf (λh' hd' hs=>?_) (rl hr.length hz);obtain⟨ep',hat⟩:=hd'.dictAt;exact q _ ep' (S.setObj e (by intro _ _ z;trivial) hs λD=>⟨_,hat,hr.store hk hv⟩) (m.step _ _)
theorem T6:swapsWith v (some (.Attribute o n p)) l env=pure false:=by
 cases v<;>rfl
theorem TC(hns:Ir ix=true)(ha:CP g sc nm a o)(hi:CP g sc nm i ix)(hx:CP g sc nm e v):AE g sc nm (λg=>A4 g (.assign (.sub a i) e)) (exec (.Assign [.Subscript o ix p] v pos)):=
 λmd A env l₀ R V s₀ s H QN QR E ev fr S m q=>by
 dsimp only[A7,Bp,At,AP,Cz,BX,CT,Dq,Dz,tv,AC,AM,Dm]at q;refine wpAny_Assign_Subscript (wpAny_mono ((hx md A R V env env l₀ s₀ ev fr).1 H s _ _ S m q) (λu s₁ z=>?_) λ_ _ z=>Dc fr z) TN;obtain⟨av,H₁,hv,S₁,m₁,q₁⟩:=z;refine wpAny_mono ((ha md A R V env env l₀ s₀ ev fr).1 H₁ s₁ _ _ S₁ m₁ q₁) (λov s₂ z=>?_) λ_ _ z=>Dc fr z;obtain⟨ao,H₂,ho,S₂,m₂,q₂⟩:=z;refine wpAny_mono ((hi md A R V env env l₀ s₀ ev fr).1 H₂ s₂ _ _ S₂ m₂ q₂) (λiv s₃ z=>?_) λ_ _ z=>Dc fr z;obtain⟨ai,H₃,hiv,S3,m₃,q₃⟩:=z;cases ho with
 |ref p=>
  obtain⟨oo,e⟩:∃oo,H₃ p=oo:=⟨_,rfl⟩
  cases hiv with
  |str k t hk=>
   dsimp only at q₃;rw[e]at q₃;cases oo with
   |none=>exact q₃.elim
   |some oo=>
   cases oo with
   |dict ep es=>exact Uu hv hk e q₃.1 S3 m₃ λs' ep' S' m'=>⟨R,V,_,.refl,fr,S',m',q₃.2 ep'⟩
   |_=>exact q₃.elim
  |_=>exact q₃.elim
 |_=>exact q₃.elim
noncomputable def Ez(n:String)(a:AV):List (String×AV)->List (String×AV)
 |[]=>[(n,a)]
 |(k,b)::r=>if k=n then(k,a)::r else(k,b)::Ez n a r
theorem QB:Ez n a ((k,b)::r)=if k=n then(k,a)::r else(k,b)::Ez n a r:=rfl
theorem Yn(nd:(es.map (·.1)).Nodup):Cv es n a=Ez n a es:=by
 induction es with
 |nil=>rfl
 |cons kb r ih=>
  obtain⟨k,b⟩:=kb;rw[map_cons,nodup_cons]at nd;replace ih:=ih nd.2;unfold Cv at*;rw[QB];by_cases z:k=n
  ·have h2:(C5 ((k,b)::r) n).isSome=true:=by simp[C5,z]
   rw[h2,if_pos rfl,if_pos z,map_cons,if_pos z];congr 1;refine(map_congr_left λe he=>?_).trans (map_id r);have hne:e.1≠n:=λw=>nd.1 (by show k∈_;rw[z,<-w];exact mem_map.mpr ⟨e,he,rfl⟩);rw[if_neg hne];rfl
  ·have h2:(C5 ((k,b)::r) n).isSome=(C5 r n).isSome:=by simp[C5,z]
   rw[h2,if_neg z,<-ih];split
   ·exact rl map_cons (rl (if_neg z) rfl)
   ·rfl
theorem UM(hv:VR a v)(h:DK es ents):DK (Ez n a es) (putL (ofString n) hsh (.str (ofString n) t) v ents):=by
 induction es generalizing ents with
 |nil=>cases ents with
  |nil=>exact⟨⟨t,rfl⟩,hv,trivial⟩
  |cons=>exact h.elim
 |cons kb r ih=>
  cases ents with
  |nil=>exact h.elim
  |cons e q=>
  obtain⟨k,b⟩:=kb;refine Br h λz00 hb hr=>?_;obtain⟨t',hk⟩:=z00;replace ih:=ih hr;rw[QB];unfold putL;by_cases z:k=n
  ·have h1:e.key.isStr (ofString n)=true:=by refine rl hk (rl z ?_);simp[Value.isStr]
   exact rl h1 (rl (if_pos rfl) (rl (if_pos z) (⟨⟨t',hk⟩,hv,hr⟩)))
  ·have h1:e.key.isStr (ofString n)=false:=by
    refine rl hk ?_;show(ofString k==ofString n)=false;rw[beq_eq_false_iff_ne];exact λw=>z (NO w)
   rw[h1,if_neg Bool.false_ne_true,if_neg z];exact⟨⟨t',hk⟩,hb,ih⟩
theorem Ph:∀{es:List (String×AV)} {ents:List DictEntry},DK es ents->ents.length=es.length
 |[],[],_=>rfl
 |_::_,_::_,h=>congrArg Nat.succ (Ph h.2.2)
 |[],_::_,h=>h.elim
 |_::_,[],h=>h.elim
theorem Pp:∀{ents:List DictEntry},(putL n hsh k v ents).length<=ents.length+1
 |[]=>le_refl _
 |e::r=>by
  unfold putL;split
  ·exact le_succ _
  ·exact succ_le_succ Pp
set_option tactic.hygienic true in
theorem Uy(nd:(es.map (·.1)).Nodup):((Cv es n a).map (·.1)).Nodup:=by
 unfold Cv;split
 ·rw[map_map,show((λx:String×AV=>x.1) ∘ λe=>if e.1=n then(e.1,a) else e)=(·.1) from by funext e;simp only[Function.comp];split<;>rfl];exact nd
 ·rename_i h;rw[map_append,nodup_append];refine⟨nd,by simp,λx hx y hy=>?_⟩;simp only[map_cons,List.map_nil,mem_singleton]at hy;subst hy;rintro rfl;apply h;refine e12 (mem_map.mp hx) λe he z12=>?_;obtain rfl:=z12;unfold C5;rw[isSome_map,List.find?_isSome];exact⟨e,he,by simp⟩
theorem Uv(C:g.c.Ok mg mb)(PO:AZ g.c)(hv:VR x u)(e:H p=some (.inst cl es))(hat:g.c.P.attrs.contains (cl,n)=true)(hz:es.length<=100)
  (S:St g.c R H s.heap)(m:Sm s₀ s)(q:∀s',St g.c R (up H p (.inst cl (Cv es n x))) s'.heap->Sm s₀ s'->Q () s'):wpAny (model g.c.prog g.c.w) A (setAttr (.ref p) (ofString n) u) Q E s:=by
 obtain⟨c1,c2,c3,c4,c5,c6⟩:=PO.attr cl n hat;obtain⟨d,ents,k,x1,x2,x3,x4,x5⟩:=S.setAttr e;have X:=C.kin.keeps S.stays;have I:InstAt s.heap p (instObj (g.c.ca cl) d) (g.c.ca cl) (some (dictOf ents k)):=⟨x1,rfl,rfl,x2⟩
 obtain⟨f1,f2⟩:=L0 (n:=n) x3;have hlen:=Ph x3;obtain⟨cd,hc,hd'⟩:=any_some c2;refine set_plain X I c4<|osa_open X (⟨x1,rfl,rfl,x2⟩:InstAt s.heap p (instObj (g.c.ca cl) d) (g.c.ca cl) (some (dictOf ents k))) c5 c6 λb=>wpAny_bind (wpAny_pure (wpAny_bind (wpAny_bind (wpAny_loadPart x1 (wpAny_bind (Looks.here (s:={s with toks:=s.toks+1}) (looks_clsIn X hc) ?_))))));rw[hd'];refine wpAny_pure (a:=some d) (wpAny_bind (wpAny_pure (wpAny_bind ?_)));unfold nsSet;refine wpAny_bind (wpAny_bind (wpAny_askSetting (wpAny_pure (wpAny_bind (wpAny_mkText (wpAny_bind (wpAny_loadPart x2 ?_)))))));dsimp only;have hc':(!ents.toArray.any (·.key.isStr (ofString n))&&ents.toArray.any (·.refKey))=false:=by
  have h1:ents.toArray.any (·.refKey)=ents.any (·.refKey):=by exact rl Array.any_toList.symm rfl
  exact rl (h1 ..) (rl (f2 ..) (rl (Bool.and_false ..) rfl))
 rw[aRefKeyMayBeTheName_at,hc'];refine wpAny_updatePart x2 ?_;have hg:∀(tk:Tok),(s.heap.update d (Obj.putName (ofString n) (PyData.keyHash g.c.w.params (ofString n)) (.str (ofString n) tk) u)).get? d=some (dictOf (putL (ofString n) (PyData.keyHash g.c.w.params (ofString n)) (.str (ofString n) tk) u ents) (putN (ofString n) ents k)):=λtk=>by
  refine(Heap.get?_update_self _ x2 ?_).trans ?_
  ·rw[putName_dict];rfl
  ·exact rl (putName_dict ..) rfl
 refine wpAny_bind (wpAny_lookBehind (hg _) (pastItsLine_dict (by rw[size_toArray,sizeLine_eq];have:=Pp (n:=ofString n) (hsh:=PyData.keyHash g.c.w.params (ofString n)) (k:=.str (ofString n) (s.toks+1)) (v:=u) (ents:=ents);lia)) (wpAny_pure (q _ (x5 _ _ _ _ (Heap.SameBut.update ..) (hg _) ?_ (Uy x4)) (m.step _ _))));rw[Yn x4];exact UM hv x3
theorem Ty(C:g.c.Ok mg mb)(PO:AZ g.c)(ha:CP g sc nm a o)(hx:CP g sc nm e v):AE g sc nm (λg=>A4 g (.assign (.attr a n) e)) (exec (.Assign [.Attribute o (ofString n) p] v pos)):=
 λmd A env l₀ R V s₀ s H QN QR E ev fr S m q=>by
 dsimp only[A7,Bp,At,AP,Cz,BX,CT,Dq,Dz,tv,AC,AM,Dm]at q;refine plainObj_wpAny_Assign_Attribute (wpAny_mono ((hx md A R V env env l₀ s₀ ev fr).1 H s _ _ S m q) (λu s₁ z=>?_) λ_ _ z=>Dc fr z) T6;obtain⟨av,H₁,hv,S₁,m₁,q₁⟩:=z;refine wpAny_mono ((ha md A R V env env l₀ s₀ ev fr).1 H₁ s₁ _ _ S₁ m₁ q₁) (λov s₂ z=>?_) λ_ _ z=>Dc fr z;obtain⟨ao,H₂,ho,S₂,m₂,q₂⟩:=z;cases ho with
 |ref p=>
  obtain⟨oo,e⟩:∃oo,H₂ p=oo:=⟨_,rfl⟩
  dsimp only at q₂;rw[e]at q₂;cases oo with
  |none=>exact q₂.elim
  |some oo=>
  cases oo with
  |inst cl es=>exact Uv (g:={g with md:=md}) C PO hv e q₂.1 q₂.2.1 S₂ m₂ λs' S' m'=>⟨R,V,_,.refl,fr,S',m',q₂.2.2⟩
  |_=>exact q₂.elim
 |_=>exact q₂.elim
theorem WP(C:g.c.Ok mg mb)(PO:AZ g.c)(hn:Cb sc cl fe=true)(hx:(g.c.P.excs.lookup cl).isSome=true):AE g sc nm (λg=>A4 g (.raise cl msg)) (exec (.Raise (some (.Call fe [.Constant (.str msg) k mp] [] cp)) none pos)):=
 λmd A env l₀ R V s₀ s H QN QR E ev fr S m q=>by
 dsimp only[A7,Bp,At,AP,Cz,BX,CT,Dq,Dz]at q;obtain⟨hmd,q⟩:=q;subst hmd;obtain⟨r1,r2,_⟩:=PO.excR cl hx;obtain⟨pp,loose,T⟩:=C.top;obtain⟨tl,N,nmm,qn,bs,hdct,sn,sub,ab,col,dd,k0,k1,k2,k3,k5,mN,hC,hN,hni,TL⟩:=((own_of_in C.kin T r1 r2).keeps S.stays).obj;have FB:=PySem.F.excBase_ValueError;refine e21 (HZ hn) λid p z22=>?_;obtain rfl:=z22;refine wpAny_Raise_call_subT (C:=g.c.ca cl) (nm:=nmm) (q:=qn) (N:=N) (bs:=bs) (bm:=tl) (hdct:=hdct) (sn:=sn) (sub:=sub) (ab:=ab) (col:=col) (dd:=dd) (k0:=k0) (k1:=k1) (k2:=k2) (k3:=k3) (k5:=k5)
  FB (mN:=mN) (TL.hasType FB.hasBase) (ev.aok.hand rfl) rfl hni (I9 C fr S hn r1 ⟨rfl,?_⟩)
 refine evalArgs_plain (spliced_cons (wpAny_Constant_str (k:=k) (pos:=mp) (spliced_nil ⟨rfl,by show 1<=sizeLine;decide,hC,hN,TL,λh' e hm=>?_⟩)));obtain⟨t,ht,_⟩:=hm.there;obtain⟨mm,hmm,_⟩:=fr.ns;obtain⟨H₁,S,rl⟩:=S;have S':St1 g.c R H₁ h':=by
  refine S.noted (ls:=[]) (λa ha=>by trivial) (λb o z _=>hm.keeps b o z) (λb o z _=>⟨o.slots,hm.keeps b o z⟩) ?_;obtain⟨oL,es,ep,w,_⟩:=(S.res _ _ hmm).2;have h1:=CB (S.res _ _ hmm).1;have h2:=BR (hm.keeps _ _ w);exact le_of_lt (lt_of_le_of_lt h1 h2)
 refine⟨e,cl,R,V,H,.ellipsis,rfl,.refl,fr,.inl rfl,⟨H₁,⟨S',?_,?_,?_,.fresh ht,hx⟩,rl⟩,m.step _ _,q⟩
 ·cases z:R e with
  |none=>rfl
  |some r=>obtain⟨ob,w⟩:=(S.res _ _ z).2.there;have:=hm.new;rw[show s.heap.get? e=some ob from w]at this;trivial
 ·cases z:H₁ e with
  |none=>rfl
  |some r=>obtain⟨D,s4⟩:=S.rep;obtain⟨ob,w⟩:=(s4.rep _ _ z).there;have:=hm.new;rw[show s.heap.get? e=some ob from w]at this;trivial
 ·cases z:g.c.base.get? e with
  |none=>rfl
  |some r=>have w:=S.stays _ _ z;have:=hm.new;rw[show s.heap.get? e=some r from w]at this;trivial
theorem UT{M:Model}{A:Around}{E:Value->Shared->Prop}{s}{K}{e C D}{oe}{r}{Q}(X:K.In s.heap)(he:s.heap.get? e=some oe)(hc:oe.cls = .ref C)
  (h1:instIn K (.ref D) (.type "tuple")=some false)(h2:subIn K (.ref D) (.type "BaseException")=some true)(h3:(clsIn K D).isSome=true)(h4:subIn K (.ref C) (.ref D)=some r)(q:Q r s) :
  wpAny M A (excMatches (.ref e) (.ref D)) Q E s:=by
 obtain⟨hh,gg,d,tt,os⟩:=s;have L1:=looks_instIn (M:=M) X h1;have L2:=looks_subIn (M:=M) X h2;have L4:=looks_subIn (M:=M) X h4;have LT:Looks M hh (typeOf (.ref e)) (.ref C):=by exact rl hc.symm ((Looks.ld he).andThen .now)
 obtain⟨cd,h3⟩:=isSome_iff_exists.mp h3;unfold excMatches;refine wpAny_bind (L1.at ?_);dsimp only[Bool.false_eq_true,if_false];refine wpAny_bind (wpAny_pure (wpAny_bind ?_));have L5:Looks M hh (isExcClass (.ref D)) true:=by
  unfold clsIn at h3;generalize ho:K.lookup D=oo at h3;cases oo with
  |none=>trivial
  |some oo=>
  obtain⟨c1,c2,dt,c3⟩:=oo;cases dt with
  |cls cd=>
   have Lt:Looks M hh (isType (.ref D)) true:=(Looks.ld (part:=none) (X _ _ ho)).andThen .now;intro A' Q' E' s' k' q';unfold isExcClass;exact wpAny_bind (Lt A' _ E' s' k' (rl (if_pos rfl) (L2 A' _ E' s' k' q')))
  |_=>trivial
 refine rl (forIn_cons ..)<|wpAny_bind (wpAny_bind (L5.at ?_));simp only[Bool.not_true,Bool.false_eq_true,if_false];refine wpAny_pure ?_;dsimp only;refine rl forIn_nil<|wpAny_pure (wpAny_bind (LT.at (wpAny_bind (rl (forIn_cons ..) (wpAny_bind (wpAny_bind (L4.at ?_)))))));cases r with
 |true=>
  dsimp only[if_true];exact wpAny_pure (wpAny_pure (wpAny_pure q))
 |false=>
  dsimp only[Bool.false_eq_true,if_false];refine wpAny_pure ?_;dsimp only;exact rl forIn_nil (wpAny_pure (wpAny_pure q))
end
section
variable{g:Gx}{sc:Scope}{nm:List Str}{mg mb:Str->Option Value}
def CO(g:Gx)(sc:Scope)(nm:List Str):Hd->ExceptHandler->Prop
 | .mk cl nmi b,.ExceptHandler (some t) name (x::body) _=>Cb sc cl t=true/\(g.c.P.excs.lookup cl).isSome=true/\AE g sc nm (λg=>Af g b) (execs (x::body))/\Ji sc nm nmi name=true
 |_,_=>False
inductive FN(P:Hd->ExceptHandler->Prop):List Hd->List ExceptHandler->Prop
 |nil:FN P [] []
 |cons {x e xs es}:P x e->FN P xs es->FN P (x::xs) (e::es)
theorem XF(ev:Ev {g with md:=true} A R env l₀):Ev {g with md:=false} (A.mark (some e)) R env l₀:=
 ⟨⟨ev.aok.frames,ev.aok.depth,ev.aok.units,λh=>by trivial⟩,ev.stk⟩
theorem Vr{env:Env}{R:RR}{s₀ s:Shared}{e:Value}(h:TX g env sc nm R s₀ (λ_ _ _=>False) e s){P:Prop}:P:=by
 obtain⟨_,_,_,_,_,_,_,_,_,_,_,_,q⟩:=h;exact q.elim
theorem SR(C:g.c.Ok mg mb)(PO:AZ g.c)(nd:nm.Nodup)(hh:FN (CO g sc nm) hs es):∀(A:Around) (env:Env) (l₀:List Env) (R:RR) (V:VV) (s₀ s:Shared) (H:Ac) (e:Addr) (cl:String) (QN:VV->Ac->Prop) (QR:AV->Ac->Prop) (E:String->VV->Ac->Prop),
  Ev {g with md:=true} A R env l₀->Frm R env sc nm V->ExcSt g.c R H e cl .none s.heap->Sm s₀ s->Da {g with md:=true} hs cl QN QR E V H->
  wpAny (model g.c.prog g.c.w) A (handleBy (.ref e) env es) (TF g env sc nm R s₀ QN QR) (TX g env sc nm R s₀ E) s:=by
 induction hh with
 |nil=>exact λA env l₀ R V s₀ s H e cl QN QR E ev fr X m q=>q.elim
 | @cons x eh _ _ h r ih=>
  intro A env l₀ R V s₀ s H e cl QN QR E ev fr X m q;obtain⟨c,nmi,b⟩:=x;obtain⟨ty,name,body,pos⟩:=eh;rw[LY,MN]at q;cases ty with
  |none=>exact h.elim
  |some t=>
  cases body with
  |nil=>exact h.elim
  |cons b₀ body=>
  refine EU h λh1 h2 h3 h4=>Ys (PO.excR c h2) λr1 r2 r3 r4 r5 _=>e23 X.obj λo vs o1 o2 o3=>wpAny_handleBy_cons (codeAny_handlers_test (I9 C fr X.st h1 r1 (UT (C.kin.keeps X.st.stays) o1 o2 r3 r4 r5 (PO.excC cl c X.kn h2) ?_))) (by intro z;trivial);cases hsub:Gl g.c.P cl c with
  |false=>
   rw[hsub,if_neg Bool.false_ne_true]at q;rw[if_neg Bool.false_ne_true];exact ih A env l₀ R V s₀ s H e cl QN QR E ev fr X m q
  |true=>
   rw[hsub,if_pos rfl]at q;rw[if_pos rfl];cases nmi with
   |none=>
    cases name with
    |some=>exact Bool.noConfusion h4
    |none=>
    refine codeAny_handlers_suite (Ly X (by simp) λh' X'=>wpAny_mono (h3 false (A.mark (some (.ref e))) env l₀ R V s₀ {s with heap:=h'} H QN QR (λ_ _ _=>False) (XF ev) fr X'.st (m.heap h') q) (λf s' z=>z) λ_ _ z=>Vr z)
   |some i=>exact Bool.noConfusion h4
theorem Sa(C:g.c.Ok mg mb)(PO:AZ g.c)(nd:nm.Nodup)(hb:AE g sc nm (λg=>Af g b) (execs x))(hh:FN (CO g sc nm) hs (h₀::es)) :
  AE g sc nm (λg=>A4 g (.try b hs)) (exec (.Try x (h₀::es) [] [] pos)):=λmd A env l₀ R V s₀ s H QN QR E ev fr S m q=>by
 dsimp only[A7,Bp,At,AP,Cz,BX,CT,Dq,Dz]at q;refine Ap q λhmd q=>?_;subst hmd;refine wpAny_Try_except (wpAny_mono (hb true A env l₀ R V s₀ s H _ QR _ ev fr S m q) (λf s₁ z=>?_) λe s₁ z=>?_)
 ·cases f with
  |next=>exact wpAny_execs_nil z
  |ret v=>exact z
  |brk=>exact z
  |cont=>exact z
 ·obtain⟨a,cl,R',V',H',fl,rfl,r,f',hfl,X,m',q'⟩:=z;exact PK ev.aok.frames (r.stk ev.stk) X hfl λh₁ X1=>Ly (s:={s₁ with heap:=h₁}) X1 (by simp[rawInt]) λh₂ X2=>wpAny_mono (SR C PO nd hh A env l₀ R' V' s₀ {s₁ with heap:=h₂} H' a cl QN QR E (ev.step r) f' X2 (m'.heap h₂) q') (λ_ _ z=>z.trans r) λ_ _ z=>z.trans r
theorem Wp{e:X}{m:X->Prop}(h:M4 e=true)(f:∀x k tup it c,m (.comp x k tup it c)):m e:=X.comp.elim (motive_1:=m) e (eq_of_beq h) f
theorem V0{msg:Str}{es:List Expr}{m:List Expr->Prop}(h:N2 msg es=true)(f:∀k p,m [.Constant (.str msg) k p]):m es:=
 Ge h λe h=>NX (m:=λe=>m [e]) h λ_ k p h=>eq_of_beq (Aa h).1▸f k p
variable(C:g.c.Ok mg mb)(PO:AZ g.c)(nd:nm.Nodup)
include C PO in
theorem Dn(h:By g.c.P true sc nm e v=true):CP g sc nm e v:=λmd=>sX (g:={g with md:=md}) C PO e v true sc nm h
include C PO nd in
theorem Yv{t:T}{e:X}(h1:(Gf v||(IW v&&M4 e))=true)(h0:F4 sc t tg v=true)(h2:Rq g.c.P sc nm t tg=true)(h3:By g.c.P true sc nm e v=true) :
  AE g sc nm (λg=>A4 g (.assign t e)) (exec (.Assign [tg] v pos)):=by
 cases t with
 |var i=>
  cases hc:Gf v with
  |true=>exact T9 nd hc h2 (Dn C PO h3)
  |false=>
   rw[hc,Bool.false_or]at h1;clear h0;revert h1 h3;exact λh1=>Wp (m:=λe=>By g.c.P true sc nm e v=true->AE g sc nm (λg=>A4 g (.assign (.var i) e)) (exec (.Assign [tg] v pos))) (Aa h1).2 λx k tup it cc h3=>OU (m:=λv=>CP g sc nm (.comp x k tup it cc) v->AE g sc nm (λg=>A4 g (.assign (.var i) (.comp x k tup it cc))) (exec (.Assign [tg] v pos))) h3 (λelt ctg iter ifs csc ts p htg o=>rl o.len (λhx=>Tx C htg nd h2 o.sc o.set (Dn C PO o.it) (λmd=>sX (g:={g with md:=md}) C PO x elt false _ _ o.x) (λmd=>sC (g:={g with md:=md}) C PO cc ifs _ _ o.c) hx)) (Dn C PO h3)
 |sub a i=>exact P8 (m:=λtg=>AE g sc nm (λg=>A4 g (.assign (.sub a i) e)) (exec (.Assign [tg] v pos))) h2 λ_ _ _ k1 k2 k3=>TC k1 (Dn C PO k2) (Dn C PO k3) (Dn C PO h3)
 |tup is=>
  exact TA C nd h0 h2 (Dn C PO h3)
 |rtup is=>exact Tw C nd h0 h2 (Dn C PO h3)
 |attr a n=>exact Jv (m:=λtg=>AE g sc nm (λg=>A4 g (.assign (.attr a n) e)) (exec (.Assign [tg] v pos))) h2 λo _ p k=>eq_of_beq (Aa k).1▸Ty C PO (Dn C PO (Aa k).2) (Dn C PO h3)
include C PO nd in
mutual
theorem sS:∀(st:S) (t:Stmt),Rp g.c.P sc nm st t=true->AE g sc nm (λg=>A4 g st) (exec t)
 | .assign t e,st,h=>UC (m:=λst=>AE g sc nm (λg=>A4 g (.assign t e)) (exec st)) h λts v p h=>Ge (m:=λts=>AE g sc nm (λg=>A4 g (.assign t e)) (exec (.Assign ts v p))) h λtg h=>
  have h3:=Aa h;have h2:=Aa h3.1;have h1:=Aa h2.1;Yv C PO nd h1.1 h1.2 h2.2 h3.2
 | .expr e,st,h=>TW (m:=λst=>AE g sc nm (λg=>A4 g (.expr e)) (exec st)) h λv p h=>Yg (Aa h).1 (Dn C PO (Aa h).2)
 | .ret e,st,h=>Up (m:=λst=>AE g sc nm (λg=>A4 g (.ret e)) (exec st)) h λv p h=>Ju (m:=λv=>AE g sc nm (λg=>A4 g (.ret e)) (exec (.Return v p))) h λv h=>Sf (Dn C PO h)
 | .ite c a b,st,h=>UA (m:=λst=>AE g sc nm (λg=>A4 g (.ite c a b)) (exec st)) h λt x y p h=>have h2:=Aa h;have h1:=Aa h2.1;M' (Dn C PO h1.1) (Fw a x h1.2) (Fw b y h2.2)
 | .while c b,st,h=>Tp (m:=λst=>AE g sc nm (λg=>A4 g (.while c b)) (exec st)) h λt x o p h=>have h1:=Aa (Aa h).2;CJ (m:=λo=>AE g sc nm (λg=>A4 g (.while c b)) (exec (.While t x o p))) (Aa h).1 (WN (Dn C PO h1.1) (Fw b x h1.2))
 | .for t it b,st,h=>OO (m:=λst=>AE g sc nm (λg=>A4 g (.for t it b)) (exec st)) h λtg i x o p h=>have h3:=Aa (Aa h).2;have h2:=Aa h3.1;have h1:=Aa h2.1
  CJ (m:=λo=>AE g sc nm (λg=>A4 g (.for t it b)) (exec (.For tg i x o p))) (Aa h).1 (SB C nd h1.1 h1.2 (Dn C PO h2.2) (Fw b x h3.2))
 | .fore i j a bd,st,h=>OO (m:=λst=>AE g sc nm (λg=>A4 g (.fore i j a bd)) (exec st)) h λtg it x o p h=>have h3:=Aa (Aa h).2;have h2:=Aa h3.1
  CJ (m:=λo=>AE g sc nm (λg=>A4 g (.fore i j a bd)) (exec (.For tg it x o p))) (Aa h).1 (Ih (m:=λit=>AE g sc nm (λg=>A4 g (.fore i j a bd)) (exec (.For tg it x [] p))) h2.2 λfe as q k1 k2 k3=>Ye C PO nd h2.1 k1 k2 (λmd=>EW (g:={g with md:=md}) C PO [a] as true sc nm k3) (Fw bd x h3.2))
 | .raise cl msg,st,h=>Ts (m:=λst=>AE g sc nm (λg=>A4 g (.raise cl msg)) (exec st)) h λc z p h=>match z,h with
  |some _,h=>Bool.noConfusion h
  |none,h=>Ju (m:=λc=>AE g sc nm (λg=>A4 g (.raise cl msg)) (exec (.Raise c none p))) h λc h=>Ih (m:=λc=>AE g sc nm (λg=>A4 g (.raise cl msg)) (exec (.Raise (some c) none p))) h λfe as q h1 h2 h3=>
   V0 (m:=λas=>AE g sc nm (λg=>A4 g (.raise cl msg)) (exec (.Raise (some (.Call fe as [] q)) none p))) h3 λ_ _=>WP C PO h1 h2
 | .try b hs,st,h=>Uo (m:=λst=>AE g sc nm (λg=>A4 g (.try b hs)) (exec st)) h λx hs' o z p h=>have h1:=Aa (Aa h).2;have h0:=Aa (Aa h).1
  CJ (m:=λo=>AE g sc nm (λg=>A4 g (.try b hs)) (exec (.Try x hs' o z p))) h0.1 (CJ (m:=λz=>AE g sc nm (λg=>A4 g (.try b hs)) (exec (.Try x hs' [] z p))) h0.2
   (Ef (m:=λhs'=>AE g sc nm (λg=>A4 g (.try b hs)) (exec (.Try x hs' [] [] p))) h1.2 λh₀ r h=>Sa C PO nd (Fw b x h1.1) (Rt hs (h₀::r) h)))
 | .pass,st,h=>TS (m:=λst=>AE g sc nm (λg=>A4 g .pass) (exec st)) h λ_ _=>Yb
theorem Fw:∀(l:List S) (ts:List Stmt),Cr g.c.P sc nm l ts=true->AE g sc nm (λg=>Af g l) (execs ts)
 |[],ts,h=>CJ (m:=λts=>AE g sc nm (λg=>Af g []) (execs ts)) h XY
 |st::r,ts,h=>Ef (m:=λts=>AE g sc nm (λg=>Af g (st::r)) (execs ts)) h λe q h=>WL (sS st e (Aa h).1) (Fw r q (Aa h).2)
theorem Rt:∀(l:List Hd) (ts:List ExceptHandler),Gz g.c.P sc nm l ts=true->FN (CO g sc nm) l ts
 |[],ts,h=>CJ (m:=FN (CO g sc nm) []) h .nil
 |hd::r,ts,h=>Ef (m:=FN (CO g sc nm) (hd::r)) h λe q h=>.cons (sH hd e (Aa h).1) (Rt r q (Aa h).2)
theorem sH:∀(hd:Hd) (t:ExceptHandler),Ro g.c.P sc nm hd t=true->CO g sc nm hd t
 | .mk cl nmi b,.ExceptHandler ty name body p,h=>Ju (m:=λty=>CO g sc nm (.mk cl nmi b) (.ExceptHandler ty name body p)) h λt h=>Ef (m:=λbody=>CO g sc nm (.mk cl nmi b) (.ExceptHandler (some t) name body p)) h λx body h=>
  have h3:=Aa h;have h2:=Aa h3.1;have h1:=Aa h2.1;⟨h1.1,h1.2,Fw b (x::body) h2.2,h3.2⟩
end
end
theorem TH{ns:List Str}:∀{vs:List Value},ns.length=vs.length->∀n∈ns,((ns.zip vs).lookup n).isSome=true:=by
 induction ns with
 |nil=>intro vs _ n hn;cases hn
 |cons a r ih=>
  intro vs hl n hn;cases vs with
  |nil=>simp at hl
  |cons v vs=>
   simp only[List.zip_cons_cons,lookup_cons];cases hb:n==a with
   |true=>rfl
   |false=>
    have hne:n≠a:=by simpa using hb
    rcases mem_cons.mp hn with h|h
    ·exact absurd h hne
    ·exact ih (by simpa using hl) n h
theorem PH:∀{l:List α},(∀x∈l,f x=g x)->l.filterMap f=l.filterMap g
 |[],_=>rfl
 |a::r,h=>by rw[filterMap_cons,filterMap_cons,h a (.head _),PH λx hx=>h x (.tail _ hx)]
theorem Td{ns:List Str}:∀{vs:List Value},ns.Nodup->ns.length=vs.length->(ns.filterMap λn=>((ns.zip vs).lookup n).map λv=>(n,v))=ns.zip vs:=by
 induction ns with
 |nil=>intro vs _ _;rfl
 |cons a r ih=>
  intro vs hn hl;cases vs with
  |nil=>simp at hl
  |cons v vs=>
   refine Ap (nodup_cons.mp hn) λh1 h2=>?_;simp only[List.zip_cons_cons,filterMap_cons,lookup_cons,beq_self_eq_true,map_some];congr 1;refine Eq.trans ?_ (ih h2 (by simpa using hl));apply PH;intro n hn';have hne:(n==a)=false:=by
    apply beq_eq_false_iff_ne.mpr;rintro rfl;exact h1 hn'
   simp only[hne]
theorem M9[Decidable c](hc:¬c)(h:wpAny M A b Q E s):wpAny M A (if c then a else b) Q E s:=by rw[if_neg hc];exact h
theorem Um(h1:fd.params.posonlyargs=[])(h2:fd.params.vararg=none)(h3:fd.params.kwonlyargs=[])(h4:fd.params.kwarg=none)(h5:fd.defaults = .none)
  (h6:(fd.params.args.map (·.arg)).Nodup)(h7:fd.params.args.length=vals.length):BindsTo s fd ⟨vals,[]⟩ ((fd.params.args.map (·.arg)).zip vals):=by
 obtain⟨nm,qn,⟨po,as,va,ko,kd,kw,df⟩,bd,sc,gl,cl,dfl,kdf,dc,pm,an,cd,ct,bl⟩:=fd;replace h1:po=[]:=h1;replace h2:va=none:=h2;replace h3:ko=[]:=h3;replace h4:kw=none:=h4;replace h5:dfl = .none:=h5;subst h1 h2 h3 h4 h5;intro M A E Q q;unfold bindArgs;dsimp only;refine wpAny_bind (wpAny_pure (wpAny_bind (wpAny_pure (a:=(none:Option (Array Value))) ?_)));have hl:(as.map (·.arg)).length=vals.length:=by rw[length_map];exact h7
 have ed:∀k,List.drop k ((none:Option (Array Value)).getD #[]).toList=[]:=λ_=>List.drop_nil;have e1:(((as.map (·.arg)).take (as.map (·.arg)).length).filter λn=>(((as.map (·.arg)).zip vals).lookup n).isNone)=[]:=by
  rw[take_length,filter_eq_nil_iff];intro n hn;have:=TH hl n hn;simpa using this
 refine M9 (λz=>lt_irrefl _ (Nat.lt_of_lt_of_eq (of_decide_eq_true (Aa z).1) hl.symm)) ?_;rw[ed];refine M9 (λz=>Bool.noConfusion (((congrArg (λl=>!l.isEmpty) e1).symm.trans z))) ?_;rw[List.zip_nil_right];refine wpAny_bind (wpAny_pure (wpAny_bind (wpAny_pure (M9 (λz=>Bool.noConfusion z) (wpAny_pure ?_)))));show Q ((as.map (λa:PySem.Arg=>a.arg)++[]).filterMap λn=>(((as.map (λa:PySem.Arg=>a.arg)).zip vals).lookup n).map λx=>(n,x)) s;rw[append_nil];exact(Td h6 hl).symm▸q
theorem St1.news(S:St1 c R H h)(k:∀b ob,h.get? b=some ob->h'.get? b=some ob)(hs:h.objs.size<=h'.objs.size)
  (hR:∀b,R' b=R b\/(h.objs.size<=b/\∃r,R' b=some r/\ResAt h' b r)):St1 c R' H h':=by
 have S':=S.keeps k hs;refine e11 S.rep λD0 s40=>?_;have hb:=S.size;refine⟨S'.stays,S'.size,λb r e=>?_,D0,⟨λa ao e=>(s40.rep a ao e).agree (λ_=>k _ _) λ_ _ _=>⟨rfl,λ_=>k _ _⟩,λa ao e=>?_,λa cl es e=>?_,s40.inj⟩⟩
 ·rcases hR b with q|⟨q1,r',q2,q3⟩
  ·rw[q]at e;exact S'.res b r e
  ·rw[q2]at e;obtain rfl:=Ak e;exact⟨by have:=CB q1;exact le_trans hb this,q3⟩
 ·refine⟨(s40.above a ao e).1,?_⟩;rcases hR a with q|⟨q1,_⟩
  ·rw[q];exact(s40.above a ao e).2
  ·refine e11 ((s40.rep a ao e).there) λob w=>?_;have:=BR w;have:=CB q1;lia
 ·refine Br (s40.dict a cl es e) λy1 y2 y3=>⟨y1,?_,y3⟩
  rcases hR (D0 a)with q|⟨q1,_⟩
  ·rw[q];exact y2
  ·obtain⟨_,ents,n,w,_⟩:=s40.rep a _ e;have:=BR w;have:=CB q1;lia
theorem St.news(S:St c R H h)(k:∀b ob,h.get? b=some ob->h'.get? b=some ob)(hs:h.objs.size<=h'.objs.size)
  (hR:∀b,R' b=R b\/(h.objs.size<=b/\∃r,R' b=some r/\ResAt h' b r)):St c R' H h':=let ⟨H₁,s,r⟩:=S;⟨H₁,s.news k hs hR,r⟩
theorem Pb:∀{bs:List (Str×Value)} {m:Str->Option Value} {n:Str},n∉bs.map (·.1)->bindL kf bs m n=m n
 |[],_,_,_=>rfl
 |(a,v)::r,m,n,h=>by
  simp only[map_cons,mem_cons,not_or]at h;unfold bindL;rw[Pb h.2];split
  ·simp[h.1]
  ·rfl
theorem Pe:∀{bs:List (Str×Value)} {m:Str->Option Value} {n:Str},n∉bs.map (·.1)->bindC kf bs m n=m n
 |[],_,_,_=>rfl
 |(a,v)::r,m,n,h=>by
  simp only[map_cons,mem_cons,not_or]at h;unfold bindC;rw[Pe h.2];split
  ·rfl
  ·simp[h.1]
theorem Pd:∀{bs:List (Str×Value)} {m:Str->Option Value} {n:Str} {v:Value} {i:Nat},(bs.map (·.1)).Nodup->bs[i]? =some (n,v)->kf n=some .local->bindL kf bs m n=some v
 |(a,w)::r,m,n,v,0,hn,e,hk=>by
  simp only[List.getElem?_cons_zero,Option.some.injEq,Prod.mk.injEq]at e;obtain⟨rfl,rfl⟩:=e;simp only[map_cons,nodup_cons]at hn;unfold bindL;rw[Pb hn.1,if_pos hk];simp
 |(a,w)::r,m,n,v,i+1,hn,e,hk=>by
  simp only[getElem?_cons_succ]at e;simp only[map_cons,nodup_cons]at hn;unfold bindL;exact Pd hn.2 e hk
theorem Pf:∀{bs:List (Str×Value)} {m:Str->Option Value} {n:Str} {v:Value} {i:Nat},(bs.map (·.1)).Nodup->bs[i]? =some (n,v)->kf n=some .cell->bindC kf bs m n=some v
 |(a,w)::r,m,n,v,0,hn,e,hk=>by
  simp only[List.getElem?_cons_zero,Option.some.injEq,Prod.mk.injEq]at e;obtain⟨rfl,rfl⟩:=e;simp only[map_cons,nodup_cons]at hn;unfold bindC;rw[Pe hn.1,if_neg (by rw[hk];simp)];simp
 |(a,w)::r,m,n,v,i+1,hn,e,hk=>by
  simp only[getElem?_cons_succ]at e;simp only[map_cons,nodup_cons]at hn;unfold bindC;exact Pf hn.2 e hk
noncomputable def Qv(d:Data)(k:FuncData->Bool):Bool:=match d with
 | .func fd=>k fd
 |_=>false
theorem TV{d:Data}{k:FuncData->Bool}{C:Prop}(h:Qv d k=true)(q:∀fd,d = .func fd->k fd=true->C):C:=by
 cases d with
 |func fd=>exact q fd rfl h
 |_=>trivial
noncomputable def PT(d:FuncBody)(k:List Stmt->Bool):Bool:=match d with
 | .stmts b=>k b
 |_=>false
theorem Tq{d:FuncBody}{k:List Stmt->Bool}{C:Prop}(h:PT d k=true)(q:∀b,d = .stmts b->k b=true->C):C:=by
 cases d with
 |stmts b=>exact q b rfl h
 |_=>trivial
noncomputable def Q_(d:Option Obj)(k:Obj->Bool):Bool:=match d with
 |some o=>k o
 |none=>false
theorem Uq{d:Option Obj}{k:Obj->Bool}{C:Prop}(h:Q_ d k=true)(q:∀o,d=some o->k o=true->C):C:=by
 cases d with
 |some o=>exact q o rfl h
 |none=>trivial
noncomputable def DD(K:Frag)(P:Pg)(a:Addr)(F:Fn):Bool:=Q_ (K.lookup a) λo=>Qv o.data λfd=>PT fd.body λbody=>fd.globals==mainGlobals&&fd.builtins==builtinsNs&&fd.closure.isEmpty&&fd.defaults==.none&&fd.params.posonlyargs.isEmpty&&fd.params.vararg.isNone&&fd.params.kwonlyargs.isEmpty&&fd.params.kwarg.isNone &&
     !fd.scope.isCoroutine&&!fd.scope.isGenerator&&fd.scope.kind==.function&&codeIn K fd.code fd.qualname&&(fd.params.args.map (·.arg))==(F.slots.map ofString).take F.npar&&decide (F.npar<=F.slots.length)&&decide ((F.slots.map ofString).Nodup) &&
     (F.slots.map ofString).all (λn=>match fd.scope.names.lookup n with|some .local=>true|some .cell=>((cellsFrom 0 fd.scope.names []).lookup n).isSome|_=>false)&&decide ((cellsFrom 0 fd.scope.names []).map (·.1)).Nodup &&
     Cr P fd.scope (F.slots.map ofString) F.body body
theorem NN{l:List (Str×Addr)}:(l.lookup n).isSome=(l.map (·.1)).contains n:=by
 induction l with
 |nil=>rfl
 |cons a r ih=>
  obtain⟨k,v⟩:=a;simp only[lookup_cons,map_cons,contains_cons];cases hb:n==k with
  |true=>simp
  |false=>simp[ih]
noncomputable def ES(F:Fn)(args:List AV):VV:=args.map some++List.replicate (F.slots.length - F.npar) none
inductive XO(K:Frag)(P:Pg)(a:Addr)(F:Fn):Prop
 |mk (o:Obj) (fd:FuncData) (body:List Stmt) (ho:K.lookup a=some o) (hd:o.data = .func fd) (hb:fd.body = .stmts body) (c1:fd.globals=mainGlobals) (c2:fd.builtins=builtinsNs) (c3:fd.closure=[]) (c4:fd.defaults = .none) (c5:fd.params.posonlyargs=[]) (c6:fd.params.vararg=none) (c7:fd.params.kwonlyargs=[]) (c8:fd.params.kwarg=none)
   (c9:fd.scope.isCoroutine=false) (c10:fd.scope.isGenerator=false) (c11:fd.scope.kind = .function) (c12:codeIn K fd.code fd.qualname=true) (c13:fd.params.args.map (·.arg)=(F.slots.map ofString).take F.npar) (c14:F.npar<=F.slots.length) (c15:(F.slots.map ofString).Nodup)
   (c16:∀n∈F.slots.map ofString,fd.scope.names.lookup n=some .local\/(fd.scope.names.lookup n=some .cell/\((cellsFrom 0 fd.scope.names []).lookup n).isSome=true)) (c17:((cellsFrom 0 fd.scope.names []).map (·.1)).Nodup) (c18:Cr P fd.scope (F.slots.map ofString) F.body body=true)
theorem WR{fd:FuncData}(h:(match fd.scope.names.lookup n with|some .local=>true|some .cell=>((cellsFrom 0 fd.scope.names []).lookup n).isSome|_=>false)=true):fd.scope.names.lookup n=some .local\/(fd.scope.names.lookup n=some .cell/\((cellsFrom 0 fd.scope.names []).lookup n).isSome=true):=by
 revert h;cases fd.scope.names.lookup n with
 |none=>exact λh=>Bool.noConfusion h
 |some k=>cases k<;>first|exact λ_=>.inl rfl|exact λh=>.inr ⟨rfl,h⟩|exact λh=>Bool.noConfusion h
theorem VI{K}(h:DD K P a F=true):XO K P a F:=
 Uq h λo ho h=>TV h λfd hd h=>Tq h λbody hb h=>⟨o,fd,body,ho,hd,hb,eq_of_beq (Aa (Aa (Aa (Aa (Aa (Aa (Aa (Aa (Aa (Aa (Aa (Aa (Aa (Aa (Aa (Aa (Aa h).1).1).1).1).1).1).1).1).1).1).1).1).1).1).1).1).1,eq_of_beq (Aa (Aa (Aa (Aa (Aa (Aa (Aa (Aa (Aa (Aa (Aa (Aa (Aa (Aa (Aa (Aa (Aa h).1).1).1).1).1).1).1).1).1).1).1).1).1).1).1).1).2,isEmpty_iff.mp (Aa (Aa (Aa (Aa (Aa (Aa (Aa (Aa (Aa (Aa (Aa (Aa (Aa (Aa (Aa (Aa h).1).1).1).1).1).1).1).1).1).1).1).1).1).1).1).2,eq_of_beq (Aa (Aa (Aa (Aa (Aa (Aa (Aa (Aa (Aa (Aa (Aa (Aa (Aa (Aa (Aa h).1).1).1).1).1).1).1).1).1).1).1).1).1).1).2,isEmpty_iff.mp (Aa (Aa (Aa (Aa (Aa (Aa (Aa (Aa (Aa (Aa (Aa (Aa (Aa (Aa h).1).1).1).1).1).1).1).1).1).1).1).1).1).2,Option.isNone_iff_eq_none.mp (Aa (Aa (Aa (Aa (Aa (Aa (Aa (Aa (Aa (Aa (Aa (Aa (Aa h).1).1).1).1).1).1).1).1).1).1).1).1).2,isEmpty_iff.mp (Aa (Aa (Aa (Aa (Aa (Aa (Aa (Aa (Aa (Aa (Aa (Aa h).1).1).1).1).1).1).1).1).1).1).1).2,Option.isNone_iff_eq_none.mp (Aa (Aa (Aa (Aa (Aa (Aa (Aa (Aa (Aa (Aa (Aa h).1).1).1).1).1).1).1).1).1).1).2,(Bool.not_eq_true' _).mp (Aa (Aa (Aa (Aa (Aa (Aa (Aa (Aa (Aa (Aa h).1).1).1).1).1).1).1).1).1).2,(Bool.not_eq_true' _).mp (Aa (Aa (Aa (Aa (Aa (Aa (Aa (Aa (Aa h).1).1).1).1).1).1).1).1).2,eq_of_beq (Aa (Aa (Aa (Aa (Aa (Aa (Aa (Aa h).1).1).1).1).1).1).1).2,(Aa (Aa (Aa (Aa (Aa (Aa (Aa h).1).1).1).1).1).1).2,eq_of_beq (Aa (Aa (Aa (Aa (Aa (Aa h).1).1).1).1).1).2,of_decide_eq_true (Aa (Aa (Aa (Aa (Aa h).1).1).1).1).2,of_decide_eq_true (Aa (Aa (Aa (Aa h).1).1).1).2,λn hn=>WR (all_eq_true.mp (Aa (Aa (Aa h).1).1).2 n hn),of_decide_eq_true (Aa (Aa h).1).2,(Aa h).2⟩
theorem U6(h:args.length=F.npar)(h':F.npar<=F.slots.length):(ES F args).length=F.slots.length:=by
 unfold ES;rw[length_append,length_map,List.length_replicate,h];exact Nat.add_sub_cancel' h'
theorem OW{F:Fn}{args:List AV}{vals:List Value}{ps:List Str}{i:Nat}{n:Str}(hl:args.length=F.npar)(hv:VRs args vals)(hp:ps=(F.slots.map ofString).take F.npar)(hn:(F.slots.map ofString)[i]? =some n) :
  ∃v,(ES F args)[i]? =some v/\∀(y:Option Value),(∀w,(ps.zip vals)[i]? =some (n,w)->y=some w)->FX v y:=by
 have hi:i<F.slots.length:=by have:=(AJ hn).1;rwa[length_map]at this
 unfold ES;by_cases z:i<F.npar
 ·have hia:i<args.length:=by rw[hl];exact z
  have hav:=getElem?_eq_getElem hia;refine e12 (hv.get hav) λw hw hvr=>⟨some args[i],by rw[getElem?_append_left (by rw[length_map];exact hia),getElem?_map,hav];rfl,λy hy=>?_⟩
  rw[hy w (by rw[List.getElem?_zip_eq_some,hp,List.getElem?_take_of_lt z];exact⟨hn,hw⟩)];exact .some hvr
 ·refine⟨none,?_,λy _=>.none⟩;rw[getElem?_append_right (by rw[length_map,hl];exact not_lt.mp z),List.getElem?_replicate,length_map,hl,if_pos (Nat.sub_lt_sub_right (not_lt.mp z) hi)]
noncomputable def ET(L:Addr)(m cm:Str->Option Value)(cells:List (Str×Addr))(R:RR):RR:=λb=>if b=L then some (.ns m) else match cells.find? (λp=>p.2==b)with
 |some p=>some (.cell (cm p.1))
 |none=>R b
theorem Vb:ET L m cm cells R L=some (.ns m):=if_pos rfl
theorem Ul(ab:∀p∈cells,@LT.lt Nat _ L p.2)(ap:∀n n' c,(n,c)∈cells->(n',c)∈cells->n=n')(h:cells.lookup n=some a):ET L m cm cells R a=some (.cell (cm n)):=by
 have hmem:=mem_of_lookup h;have hlt:=ab _ hmem;unfold ET;rw[if_neg (λz=>by rw[z]at hlt;exact lt_irrefl _ hlt)];cases hf:cells.find? (λp=>p.2==a)with
 |none=>exact absurd (beq_self_eq_true a) (List.find?_eq_none.mp hf _ hmem)
 |some p=>
  have h1:=List.mem_of_find?_eq_some hf;have h2:p.2=a:=eq_of_beq (find?_some (p:=λ(p:Str×Addr)=>p.2==a) hf);have h3:p.1=n:=ap p.1 n a (by rw[<-h2];exact h1) hmem;rw[<-h3]
theorem Ws(b:Addr):ET L m cm cells R b=R b\/b=L\/∃p∈cells,p.2=b:=by
 unfold ET;by_cases z:b=L
 ·exact .inr (.inl z)
 ·rw[if_neg z];cases hf:cells.find? (λp=>p.2==b)with
  |none=>exact .inl rfl
  |some p=>exact .inr (.inr ⟨p,List.mem_of_find?_eq_some hf,eq_of_beq (find?_some (p:=λ(p:Str×Addr)=>p.2==b) hf)⟩)
theorem Uk{c}(C:c.Ok mg mb)(PO:AZ c)(hok:DD c.K c.P (c.fa f) F=true)(hlen:args.length=F.npar)
  (q:Af ⟨c,n,md⟩ F.body (λ_ H=>Q .none H) Q (λcl _ H=>E cl H) (ES F args) H):CallOK c (n+1) md f args Q E H:=by
 intro A stk R s vals Rs aok stkok S hv kQ kE;obtain⟨o,fd,body,ho,hd,hb,c1,c2,c3,c4,c5,c6,c7,c8,c9,c10,c11,c12,c13,c14,c15,c16,c17,c18⟩:=VI hok;have X:=C.kin.keeps S.stays;have hvl:=hv.length;have hpl:(fd.params.args.map (·.arg)).length=F.npar:=by rw[c13,length_take,length_map,min_eq_left c14]
 have hpn:(fd.params.args.map (·.arg)).Nodup:=by rw[c13];exact c15.sublist (take_sublist _ _)
 have hpv:fd.params.args.length=vals.length:=by rw[<-hvl,hlen,<-hpl,length_map]
 have hcs:∀(k:Nat) n,((cellsFrom k fd.scope.names []).lookup n).isSome=((cellsFrom 0 fd.scope.names []).lookup n).isSome:=λk n=>by
  rw[NN,NN,cellsFrom_names fd.scope.names 0 k [] [] rfl]
 have hnodup:∀k:Nat,((cellsFrom k fd.scope.names []).map (·.1)).Nodup:=λk=>by rw[<-cellsFrom_names fd.scope.names 0 k [] [] rfl];exact c17
 refine codeAny_call_function (by have:=aok.depth;lia) (X _ _ ho) hd c9 c10 hb (codeRec_of X c12) (Um c5 c6 c7 c8 c4 hpn hpv _ _ _ _ ?_);rw[c3];refine wpAny_newFunctionEnv_cells c11 (λx hx=>?_) λenv he s₁ x=>?_
 ·have hm:x.1∈F.slots.map ofString:=by
   have:=(List.of_mem_zip (show(x.1,x.2)∈_ from hx)).1;rw[c13]at this;exact mem_of_mem_take this
  exact(c16 x.1 hm).imp_right λh=>⟨h.1,by rw[hcs];exact h.2⟩
 subst he;refine⟨(C.nolimit.keeps S.stays).keeps x.toInCall.keep,codeAny_func ?_⟩;generalize henv:newEnv fd.scope s.heap.objs.size fd.globals (cellsFrom (s.heap.objs.size+1) fd.scope.names []) (fd.qualname++".<locals>.") (some (c.fa f)) fd.code none fd.builtins=env at x⊢;have el:env.locals=s.heap.objs.size:=by rw[<-henv];rfl
 have es:env.scope=fd.scope:=by rw[<-henv];rfl
 have ec:env.cells=cellsFrom (s.heap.objs.size+1) fd.scope.names []:=by rw[<-henv];rfl
 have eg:env.globals=mainGlobals:=by rw[<-henv];exact c1
 have eb:env.builtins=builtinsNs:=by rw[<-henv];exact c2
 have ef:env.frame=some env.locals:=by rw[<-henv];rfl
 clear henv;have ek:∀n,env.kindOf n=fd.scope.names.lookup n:=λn=>by unfold Env.kindOf;rw[es]
 generalize hm:bindL env.kindOf ((fd.params.args.map (·.arg)).zip vals) (λ_=>none)=m at x;generalize hcm:bindC env.kindOf ((fd.params.args.map (·.arg)).zip vals) (λ_=>none)=cm at x;have hsz:s.heap.objs.size<=s₁.heap.objs.size:=by
  refine e32 x.toInCall.ns λoL _ _ w _=>?_;rw[<-el];exact le_of_lt (BR w)
 have habove:∀p∈env.cells,@LT.lt Nat _ env.locals p.2:=λp hp=>x.above p.1 p.2 hp;have hap:∀n n' c,(n,c)∈env.cells->(n',c)∈env.cells->n=n':=λn n' c h h'=>name_of_addr x.apart h h';have hL:ET env.locals m cm env.cells R env.locals=some (.ns m):=Vb;have hcell:∀n a,env.cells.lookup n=some a->ET env.locals m cm env.cells R a=some (.cell (cm n)):=λn a h=>Ul habove hap h;have hR:∀b,ET env.locals m cm env.cells R b=R b\/(s.heap.objs.size<=b/\∃r,ET env.locals m cm env.cells R b=some r/\ResAt s₁.heap b r):=λb=>by
  rcases Ws (L:=env.locals) (m:=m) (cm:=cm) (cells:=env.cells) (R:=R) b with h|rfl|⟨p,h1,rfl⟩
  ·exact .inl h
  ·exact .inr ⟨by rw[el];exact le_refl _,_,hL,x.toInCall.ns⟩
  ·have hl:env.cells.lookup p.1=some p.2:=lookup_of_mem_nodup (by rw[ec];exact hnodup _) h1;exact .inr ⟨by rw[<-el];exact le_of_lt (habove p h1),_,hcell _ _ hl,x.cell _ _ hl⟩
 generalize ET env.locals m cm env.cells R=R' at hL hcell hR;have hlt:∀b r,R b=some r->@LT.lt Nat _ b s.heap.objs.size:=λb r e=>let ⟨ob,w⟩:=(S.res b r e).2.there;BR w
 have hold:∀b r,R b=some r->R' b=some r:=λb r e=>by
  rcases hR b with h|⟨h,_⟩
  ·rw[h];exact e
  ·exact absurd (hlt b r e) (not_lt.mpr h)
 have hzn:(((fd.params.args.map (·.arg)).zip vals).map (·.1)).Nodup:=by rw[List.map_fst_zip (by rw[length_map];exact le_of_eq hpv)];exact hpn
 have fr:Frm R' env fd.scope (F.slots.map ofString) (ES F args):=by
  refine⟨by rw[es];exact c11,eg,eb,λid h=>?_,λid h=>?_,λid h=>?_,λid h=>by rw[ek];exact h,λid h=>by rw[ek];exact h,by rw[U6 hlen c14,length_map],λn n' a h h'=>hap n n' a (mem_of_lookup h) (mem_of_lookup h'),⟨m,hL,λi n hn hk=>?_⟩,λi n hn hk=>?_⟩
  ·rw[ek];exact eq_of_beq h
  ·rw[ek];exact OV h
  ·rw[ek];exact Ov h
  ·exact e12 (OW hlen hv c13 hn) λv h1 h2=>⟨v,h1,h2 _ λw hw=>by rw[<-hm];exact Pd hzn hw hk⟩
  ·refine e12 (OW hlen hv c13 hn) λv h1 h2=>?_;rcases c16 n (mem_of_getElem? hn)with z|⟨z1,z2⟩
   ·rw[ek,z]at hk;rcases hk with hk|hk<;>trivial
   ·obtain⟨a,ha⟩:=isSome_iff_exists.mp (show(env.cells.lookup n).isSome=true by rw[ec,hcs];exact z2);exact⟨a,_,v,ha,hcell n a ha,h1,h2 _ λw hw=>by rw[<-hcm];exact Pf hzn hw (by rw[ek];exact z1)⟩
 have ev:Ev ⟨c,n,md⟩ (A.deeper env) R' env stk:=by
  refine⟨⟨?_,?_,?_,aok.hand⟩,λe he=>?_⟩
  ·show A.frames.map (env::·)=_;rw[aok.frames];rfl
  ·have:=aok.depth;show A.depth+1+110+4+8*n<_;lia
  ·have:=aok.units;show A.units+3+100+10*4+60*n<_;lia
  ·rcases mem_cons.mp he with rfl|he
   ·exact⟨by rw[es];exact c11,ef,by rw[es];exact c10,by rw[es];exact c9,eb,eg,m,hL⟩
   ·have G:=stkok e he;exact e11 G.ns λmm hmm=>⟨G.kind,G.frame,G.gen,G.co,G.blt,G.glob,mm,hold _ _ hmm⟩
 have CZ:∀{R2:RR},RStep env R' R2->∀b r,R b=some r->R2 b=some r:=λ{R2} r b y e=>by
  have hlt:=hlt b y e;rcases r b with h|⟨h,_⟩|⟨⟨nn,h⟩,_⟩
  ·rw[h];exact hold b y e
  ·rw[h,el]at hlt;exact absurd hlt (lt_irrefl _)
  ·have:=habove _ (mem_of_lookup h);rw[el]at this;exact absurd (lt_trans hlt this) (lt_irrefl _)
 refine wpAny_mono (Fw (g:=⟨c,n,md⟩) C PO c15 F.body body c18 md (A.deeper env) env stk R' (ES F args) s s₁ H _ Q _ ev fr (S.news x.toInCall.keep hsz hR) x.toInCall.same q) (λfl s₂ z=>?_) λe s₂ z=>?_
 ·cases fl with
  |next=>
   obtain⟨R2,V₂,H₂,r₂,_,S₂,m₂,q₂⟩:=z;exact kQ .none .none s₂ H₂ .none (S₂.weaken (CZ r₂)) m₂ q₂
  |ret v=>
   obtain⟨R2,av,H₂,r₂,hv2,S₂,m₂,q₂⟩:=z;exact kQ av v s₂ H₂ hv2 (S₂.weaken (CZ r₂)) m₂ q₂
  |brk=>exact z.elim
  |cont=>exact z.elim
 ·obtain⟨a,cl,R2,V₂,H₂,fl,rfl,r₂,f₂,hfl,X2,m₂,q₂⟩:=z;exact UU ev.aok.frames (r₂.stk ev.stk) X2 hfl λh' X3=>kE a cl _ H₂ (X3.weaken (CZ r₂)) (m₂.heap h') q₂
noncomputable def MC(v:Option (Option Value)):Addr:=match v with
 |some (some (.ref a))=>a
 |_=>0
noncomputable def AW(K:Frag)(cl:String):Addr:=MC (nsIn K mainGlobals (ofString cl))
noncomputable def C9(K:Frag)(P:Pg)(f:String):Addr:=match P.meths.find? (λp=>p.1++"."++p.2==f)with
 |some (cl,m)=>MC (findIn K (.ref (AW K cl)) (ofString m))
 |none=>MC (nsIn K mainGlobals (ofString f))
noncomputable def Rz(a:AV)(v:Value):Bool:=match a with
 | .none=>v==.none
 | .bool a=>v==.bool a
 | .int a=>if h:v.ctorIdx=4 then Value.int.elim (motive:=λ_=>Bool) v h λb _=>b==a else false
 | .str a=>if h:v.ctorIdx=6 then Value.str.elim (motive:=λ_=>Bool) v h λb _=>b==a&&PyData.strOk b else false
 | .ref _=>false
theorem Ss(h:Rz a v=true):VR a v:=by
 cases a with
 |none=>exact rl (eq_of_beq h) .none
 |bool b=>exact rl (eq_of_beq h) (.bool b)
 |int i=>exact(dn h).elim λq z=>Value.int.elim (motive:=λv=>∀q,Value.int.elim (motive:=λ_=>Bool) v q (λb _=>b==i)=true->VR (.int i) v) v q (λb t _ z=>eq_of_beq z▸.int b t) q z
 |str x=>exact(dn h).elim λq z=>Value.str.elim (motive:=λv=>∀q,Value.str.elim (motive:=λ_=>Bool) v q (λb _=>b==x&&PyData.strOk b)=true->VR (.str x) v) v q (λb t _ z=>eq_of_beq (Aa z).1▸.str b t (Aa z).2) q z
 |ref p=>exact Bool.noConfusion h
noncomputable def MY(K:Frag)(P:Pg):Bool:=P.gfns.all λf=>nsIn K mainGlobals (ofString f)==some (some (.ref (C9 K P f)))&&keepIn K (.ref (C9 K P f))
noncomputable def SK(K:Frag)(P:Pg):Bool:=P.classes.all λcl=>nsIn K mainGlobals (ofString cl)==some (some (.ref (AW K cl)))&&keepIn K (.ref (AW K cl))&&makesIn K (AW K cl) &&
 findIn K (.ref (AW K cl)) "__init__"==some (some (.ref (C9 K P (cl++".__init__"))))&&isFn K (.ref (C9 K P (cl++".__init__")))
noncomputable def XS(K:Frag)(P:Pg):Bool:=P.meths.all λp=>plainGet K (AW K p.1) (ofString p.2)&&findIn K (.ref (AW K p.1)) (ofString p.2)==some (some (.ref (C9 K P (p.1++"."++p.2)))) &&
 isFn K (.ref (C9 K P (p.1++"."++p.2)))&&keepIn K (.ref (C9 K P (p.1++"."++p.2)))
noncomputable def XT(K:Frag)(P:Pg):Bool:=P.attrs.all λp=>plainGet K (AW K p.1) (ofString p.2)&&hasDictIn K (AW K p.1)&&findIn K (.ref (AW K p.1)) (ofString p.2)==some none &&
 findIn K (.ref (AW K p.1)) "__setattr__"==some (some (.builtin "object.__setattr__"))&&plainOver K (AW K p.1)&&takerIn K (AW K p.1) (ofString p.2)==some none
noncomputable def XR(K:Frag)(P:Pg):Bool:=P.prims.all λf=>nsIn K mainGlobals (ofString f)==some none&&!(ofString f==ofString "__name__")&&bootBuiltins (ofString f)==some (J8 f)
noncomputable def SJ(K:Frag)(P:Pg):Bool:=P.excs.all λp=>nsIn K mainGlobals (ofString p.1)==some (some (.ref (AW K p.1)))&&excIn K (AW K p.1) Ry "ValueError.__new__"&&instIn K (.ref (AW K p.1)) (.type "tuple")==some false&&subIn K (.ref (AW K p.1)) (.type "BaseException")==some true &&
 (clsIn K (AW K p.1)).isSome&&typeIn K (.ref (AW K p.1))==some (.type "type")&&instIn K (.ref (AW K p.1)) (.type "type")==some true&&!typeNames.contains p.1&&(P.excs.all λq=>subIn K (.ref (AW K p.1)) (.ref (AW K q.1))==some (Gl P p.1 q.1))
noncomputable def Xe(K:Frag)(P:Pg):Bool:=P.consts.all λp=>match nsIn K mainGlobals (ofString p.1)with
 |some (some x)=>Rz p.2 x
 |_=>false
noncomputable def SI(K:Frag)(P:Pg):Bool:=P.fns.all λp=>DD K P (C9 K P p.1) p.2
noncomputable def He(K:Frag)(P:Pg):Bool:=MY K P&&SK K P&&XS K P&&XT K P&&XR K P&&SJ K P&&Xe K P&&SI K P
theorem Dy:∀{l:List (String×α)} {n:String} {c:α},l.lookup n=some c->(n,c)∈l
 |(k,v)::r,n,c,h=>by
  rw[lookup_cons]at h;cases hb:n==k with
  |true=>rw[hb]at h;obtain rfl:=Ak h;exact rl (beq_iff_eq.mp hb) mem_cons_self
  |false=>rw[hb]at h;exact mem_cons_of_mem _ (Dy h)
noncomputable def Ft(prog:Program)(w:World)(K:Frag)(base:Heap)(P:Pg):Cx:=⟨prog,w,K,base,P,C9 K P,AW K⟩
theorem BB{α:Type}{l:List α}{p:α->Bool}(h:l.all p=true){a}(m:a∈l):p a=true:=all_eq_true.mp h a m
theorem CC{α:Type}[BEq α][LawfulBEq α]{l:List α}{a}(h:l.contains a=true):a∈l:=contains_iff_mem.mp h
theorem WB{prog:Program}{w:World}{K}(h:He K P=true):AZ (Ft prog w K base P)/\∀f F,P.fns.lookup f=some F->DD K P (C9 K P f) F=true:=by
 refine⟨⟨λf hf=>?_,λcl hf=>?_,λcl m hf=>?_,λcl n hf=>?_,λf hf=>?_,λcl hf=>?_,λcl d hc hd=>?_,λn v hf=>?_⟩,λf F hf=>BB (Aa h).2 (Dy hf)⟩
 ·exact⟨eq_of_beq (Aa (BB (Aa (Aa (Aa (Aa (Aa (Aa (Aa h).1).1).1).1).1).1).1 (CC hf))).1,(Aa (BB (Aa (Aa (Aa (Aa (Aa (Aa (Aa h).1).1).1).1).1).1).1 (CC hf))).2⟩
 ·exact⟨eq_of_beq (Aa (Aa (Aa (Aa (BB (Aa (Aa (Aa (Aa (Aa (Aa (Aa h).1).1).1).1).1).1).2 (CC hf))).1).1).1).1,(Aa (Aa (Aa (Aa (BB (Aa (Aa (Aa (Aa (Aa (Aa (Aa h).1).1).1).1).1).1).2 (CC hf))).1).1).1).2,(Aa (Aa (Aa (BB (Aa (Aa (Aa (Aa (Aa (Aa (Aa h).1).1).1).1).1).1).2 (CC hf))).1).1).2,eq_of_beq (Aa (Aa (BB (Aa (Aa (Aa (Aa (Aa (Aa (Aa h).1).1).1).1).1).1).2 (CC hf))).1).2,(Aa (BB (Aa (Aa (Aa (Aa (Aa (Aa (Aa h).1).1).1).1).1).1).2 (CC hf))).2⟩
 ·exact⟨(Aa (Aa (Aa (BB (Aa (Aa (Aa (Aa (Aa (Aa h).1).1).1).1).1).2 (CC hf))).1).1).1,eq_of_beq (Aa (Aa (Aa (BB (Aa (Aa (Aa (Aa (Aa (Aa h).1).1).1).1).1).2 (CC hf))).1).1).2,(Aa (Aa (BB (Aa (Aa (Aa (Aa (Aa (Aa h).1).1).1).1).1).2 (CC hf))).1).2,(Aa (BB (Aa (Aa (Aa (Aa (Aa (Aa h).1).1).1).1).1).2 (CC hf))).2⟩
 ·exact⟨(Aa (Aa (Aa (Aa (Aa (BB (Aa (Aa (Aa (Aa (Aa h).1).1).1).1).2 (CC hf))).1).1).1).1).1,(Aa (Aa (Aa (Aa (Aa (BB (Aa (Aa (Aa (Aa (Aa h).1).1).1).1).2 (CC hf))).1).1).1).1).2,eq_of_beq (Aa (Aa (Aa (Aa (BB (Aa (Aa (Aa (Aa (Aa h).1).1).1).1).2 (CC hf))).1).1).1).2,eq_of_beq (Aa (Aa (Aa (BB (Aa (Aa (Aa (Aa (Aa h).1).1).1).1).2 (CC hf))).1).1).2,(Aa (Aa (BB (Aa (Aa (Aa (Aa (Aa h).1).1).1).1).2 (CC hf))).1).2,eq_of_beq (Aa (BB (Aa (Aa (Aa (Aa (Aa h).1).1).1).1).2 (CC hf))).2⟩
 ·exact⟨eq_of_beq (Aa (Aa (BB (Aa (Aa (Aa (Aa h).1).1).1).2 (CC hf))).1).1,DF (Aa (Aa (BB (Aa (Aa (Aa (Aa h).1).1).1).2 (CC hf))).1).2,eq_of_beq (Aa (BB (Aa (Aa (Aa (Aa h).1).1).1).2 (CC hf))).2⟩
 ·exact e11 (isSome_iff_exists.mp hf) λl hl=>⟨eq_of_beq (Aa (Aa (Aa (Aa (Aa (Aa (Aa (Aa (BB (Aa (Aa (Aa h).1).1).2 (Dy hl))).1).1).1).1).1).1).1).1,(Aa (Aa (Aa (Aa (Aa (Aa (Aa (Aa (BB (Aa (Aa (Aa h).1).1).2 (Dy hl))).1).1).1).1).1).1).1).2,eq_of_beq (Aa (Aa (Aa (Aa (Aa (Aa (Aa (BB (Aa (Aa (Aa h).1).1).2 (Dy hl))).1).1).1).1).1).1).2,eq_of_beq (Aa (Aa (Aa (Aa (Aa (Aa (BB (Aa (Aa (Aa h).1).1).2 (Dy hl))).1).1).1).1).1).2,(Aa (Aa (Aa (Aa (Aa (BB (Aa (Aa (Aa h).1).1).2 (Dy hl))).1).1).1).1).2,eq_of_beq (Aa (Aa (Aa (Aa (BB (Aa (Aa (Aa h).1).1).2 (Dy hl))).1).1).1).2,eq_of_beq (Aa (Aa (Aa (BB (Aa (Aa (Aa h).1).1).2 (Dy hl))).1).1).2,DF (Aa (Aa (BB (Aa (Aa (Aa h).1).1).2 (Dy hl))).1).2⟩
 ·exact e11 (isSome_iff_exists.mp hc) λl hl=>e11 (isSome_iff_exists.mp hd) λl' hl'=>eq_of_beq (BB (Aa (BB (Aa (Aa (Aa h).1).1).2 (Dy hl))).2 (Dy hl'))
 ·have q:=BB (Aa (Aa h).1).2 (Dy hf);dsimp only at q;generalize hx:nsIn _ _ _=oo at q;cases oo with
  |none=>trivial
  |some oo=>cases oo with
   |none=>trivial
   |some x=>exact⟨x,hx,Ss q⟩
noncomputable def Gb(p:Addr)(ns:List Int):Ac:=λa=>if a=p then some (.script ns) else none
theorem WU(h:IntsAre vs ns):VRs (ns.map AV.int) vs:=by
 induction h with
 |nil=>exact .nil
 |cons n t _ ih=>exact .cons (.int n t) ih
set_option tactic.hygienic true in
theorem enter{prog:Program}{w:World}{K}{nl}
  (hn:n<=50)(KX:K.In s₁.heap)(T:Top p loose mean mg mb s₁.heap)(hseer:s₁.heap.NoSeer)(htree:prog.given.tree=none)(hnl:nl=ofString "law")(hmg:mg nl=some (.ref fa))(hok:He K P=true)(hlaw:P.gfns.contains "law"=true)
  (hget:s₁.heap.get? sp=some {cls:=.type "list",data:=.seq vs.toArray})(hI:IntsAre vs ns)
  (hcall:∀c:Cx,c.P=P->c.Ok mg mb->AZ c->(∀f F,P.fns.lookup f=some F->DD c.K P (c.fa f) F=true)->CallOK c n true "law" [.ref sp] (λv _=>v = .bool true) (λ_ _=>False) (Gb sp ns))
  (hq:∀s',s₁.heap.StaysIn s'.heap->s'.os=s₁.os->s'.gens=s₁.gens->Q (.bool true) s'):wpAny (model prog w) callerA (call (.ref fa) [.ref sp]) Q E s₁:=by
 refine Ap (WB (prog:=prog) (w:=w) (base:=s₁.heap) hok) λPO FO=>?_;have C:(Ft prog w K s₁.heap P).Ok mg mb:=⟨KX,T.g,T.b,T.nolimit,T.builtins,hseer,htree,p,loose,topRead_of T⟩
 have hfa:fa=(Ft prog w K s₁.heap P).fa "law":=by
  have h1:=(PO.fn "law" hlaw).1;have h2:=mg_of KX T.g h1;rw[<-hnl,hmg]at h2;exact Value.ref.inj (Ak h2)
 have S:St (Ft prog w K s₁.heap P) (λ_=>none) (Gb sp ns) s₁.heap:=by
  have hs:∀a o,Gb sp ns a=some o->a=sp/\o = .script ns:=λa o e=>by
   unfold Gb at e;split at e
   ·rename_i z;obtain rfl:=Ak e;exact⟨z,rfl⟩
   ·trivial
  refine⟨_,(?_:St1 _ _ (Gb sp ns) _),Real.raw λa o e=>by refine rl ((hs a o e).2) ?_;rfl⟩;refine⟨λ_ _ e=>e,le_refl _,λ_ _ e=>(by trivial),λ_=>0,⟨λa o e=>?_,λa o e=>?_,λa cl es e=>?_,λa b cl es cl' es' e=>?_⟩⟩
  ·refine Ap (hs a o e) λz00 z01=>?_;obtain rfl:=z00;obtain rfl:=z01;exact⟨vs,0,hget,WU hI⟩
  ·refine Ap (hs a o e) λz10 z11=>?_;obtain rfl:=z10;obtain rfl:=z11;exact⟨⟨λw=>(by trivial),λw=>(by trivial)⟩,rfl⟩
  ·cases(hs a _ e).2
  ·cases(hs a _ e).2
 refine rl hfa<|wpAny_call (hcall _ rfl C PO FO callerA [] (λ_=>none) s₁ [.ref sp] _ ⟨rfl,?_,?_,λ_=>rfl⟩ (λe he=>by trivial) S (.cons (.ref sp) .nil) ?_ ?_)
 ·show 1+300+110+0+8*n<1000;omega
 ·show 4+100+10*0+60*n<9900;omega
 ·rintro av v s' H' hv S' m rfl;cases hv;refine e21 m λh tk z22=>?_;obtain rfl:=z22;exact hq _ S'.stays rfl rfl
 ·rintro e cl s' H' _ _ h;exact h.elim
structure Gd(c:Cx)(P:Pg):Prop where
 hP:c.P=P
 ok:∃mg mb,c.Ok mg mb
 pg:AZ c
 fn:∀f F,P.fns.lookup f=some F->DD c.K P (c.fa f) F=true
theorem Gd.call(G:Gd c P)(hf:P.fns.lookup f=some F)(hlen:args.length=F.npar)
  (q:Af ⟨c,n,md⟩ F.body (λ_ H=>Q .none H) Q (λcl _ H=>E cl H) (ES F args) H):CallOK c (n+1) md f args Q E H:=by
 refine e21 G.ok λmg mb C=>?_;have:=G.fn f F hf;rw[<-G.hP]at this;exact Uk C G.pg this hlen q
theorem CallOK.mono(h:CallOK c n md f args Q E H)(k:∀v H,Q v H->Q' v H)(e:∀cl H,E cl H->E' cl H):CallOK c n md f args Q' E' H:=
 λA stk R s vals Rs a b d v p q=>h A stk R s vals Rs a b d v (λav v s' H' x y z w=>p av v s' H' x y z (k _ _ w)) (λee cl s' H' x y z=>q ee cl s' H' x y (e _ _ z))
theorem C7:BJ .Add (.int x) (.int y) Q H=Q (.int (x+y)) H:=rfl
theorem De:BJ .Sub (.int x) (.int y) Q H=Q (.int (x - y)) H:=rfl
theorem Ds:BJ .Mult (.int x) (.int y) Q H=(IntMulOk x y/\Q (.int (x*y)) H):=rfl
theorem BW:BJ .FloorDiv (.int x) (.int y) Q H=(y≠0/\Q (.int (x.fdiv y)) H):=rfl
theorem B7:BJ .Mod (.int x) (.int y) Q H=(y≠0/\Q (.int (x.fmod y)) H):=rfl
theorem Er:BJ .Pow (.int x) (.int y) Q H=((2<=x/\1<=y/\Builtin.Int.intTooBig (((Builtin.Int.intBits x:Nat):Int)*y)=false)/\Q (.int (x ^ y.toNat)) H):=rfl
theorem D9:BJ .Add (.str a) (.str b) Q H=(a.length+b.length<=sizeLine/\Q (.str (a++b)) H):=rfl
theorem Bc:AA .Lt (.int x) (.int y) Q H=Q (.bool (decide (x<y))) H:=rfl
theorem Bx:AA .LtE (.int x) (.int y) Q H=Q (.bool (decide (x<=y))) H:=rfl
theorem Bw:AA .Gt (.int x) (.int y) Q H=Q (.bool (decide (y<x))) H:=rfl
theorem Cq:AA .GtE (.int x) (.int y) Q H=Q (.bool (decide (y<=x))) H:=rfl
theorem AD:AA .Eq (.int x) (.int y) Q H=Q (.bool (x==y)) H:=rfl
theorem Ce:AA .NotEq (.int x) (.int y) Q H=Q (.bool (x != y)) H:=rfl
theorem CF:AA .Eq (.str a) (.str b) Q H=Q (.bool (a==b)) H:=rfl
theorem Dd:AA .NotEq (.str a) (.str b) Q H=Q (.bool (a != b)) H:=rfl
theorem AS:AA .In u v Q H=win false u v Q H:=rfl
theorem C1:AA .NotIn u v Q H=win true u v Q H:=rfl
theorem Az:BF (.bool t) H P=P t:=rfl
theorem Eo:BF (.int i) H P=P (i != 0):=rfl
theorem Eg:BF .none H P=P false:=rfl
theorem script_get{P:Params}{h:Heap}{sp:Addr}{xs:List PyData}{vs:List Value}(W:Well P h (.ref sp) (ofPy (.list xs)))(L:h.IsList sp vs.toArray):h.get? sp=some {cls:=.type "list",data:=.seq vs.toArray}:=by
 obtain⟨o,ho,hc,n,hd⟩:=L;rw[ofPy]at W;cases W with
 |list h1 _=>rw[ho]at h1;cases h1;cases hd;exact ho
theorem scriptH_at:Gb sp ns sp=some (.script ns):=by unfold Gb;exact rl (if_pos rfl) rfl
noncomputable def Kg(x:Obj):BT->BT
 | .nil=>.node x .nil .nil
 | .node y l r=>.node x (Kg y r) l
noncomputable def Hi:List Obj->BT
 |[]=>.nil
 |x::xs=>Kg x (Hi xs)
theorem get_odd:(BT.node v l r).get (2*k+1)=l.get k:=by
 rw[BT.get_node,if_neg (Nat.succ_ne_zero _),if_pos (Nat.mul_add_mod 2 k 1),show(2*k+1) / 2=k from Nat.mul_add_div (by decide) k 1]
theorem get_even:(BT.node v l r).get (2*k+2)=r.get k:=by
 rw[BT.get_node,if_neg (Nat.succ_ne_zero _),if_neg (by rw[Nat.add_mod_right,Nat.mul_mod_right];decide),show(2*k+2) / 2 - 1=k by rw[Nat.add_div_right _ (by decide),Nat.mul_div_cancel_left _ (by decide)];rfl]
theorem M6:∀i:Nat,i=0\/∃k,i=2*k+1\/i=2*k+2
 | 0=>.inl rfl
 | 1=>.inr ⟨0,.inl rfl⟩
 |i+2=>.inr (match M6 i with
  | .inl h=>⟨0,.inr (congrArg (· + 2) h)⟩
  | .inr ⟨k,.inl h⟩=>⟨k+1,.inl (congrArg (· + 2) h)⟩
  | .inr ⟨k,.inr h⟩=>⟨k+1,.inr (congrArg (· + 2) h)⟩)
theorem OD:∀(t:BT) (x:Obj) (i:Nat),(Kg x t).get i=if i=0 then some x else t.get (i - 1)
 | .nil,x,i=>by
  rcases M6 i with rfl|⟨k,rfl|rfl⟩
  ·rfl
  ·exact get_odd
  ·exact get_even
 | .node y l r,x,i=>by
  rcases M6 i with rfl|⟨k,rfl|rfl⟩
  ·rfl
  ·refine get_odd.trans ?_;rw[OD r y,if_neg (Nat.succ_ne_zero _)];cases k with
   |zero=>rfl
   |succ j=>exact get_even.symm
  ·exact get_even.trans (get_odd (v:=y) (r:=r)).symm
theorem Qn:∀(l:List Obj) (i:Nat),(Hi l).get i=l[i]?
 |[],i=>rfl
 |x::xs,i=>by
  show(Kg _ (Hi xs)).get _=_;rw[OD,Qn xs];cases i with
  |zero=>simp
  |succ n=>simp
theorem XN(h:Heap):absHeap (Hi h.objs.toList) h.objs.size h.life=h:=by
 obtain⟨⟨l⟩,life⟩:=h;unfold absHeap BT.list;have:(List.range l.length).map (λi=>((Hi l).get i).getD default)=l:=by
  apply List.ext_getElem?;intro i;rw[getElem?_map];by_cases h:i<l.length
  ·rw[List.getElem?_range h,map_some,Qn];simp[h]
  ·rw[getElem?_eq_none (by simpa using h),getElem?_eq_none (Nat.le_of_not_lt h)];rfl
 exact congrArg (λx:List Obj=>Heap.mk x.toArray life) this
noncomputable def Iu(tb:String->Option Builtin)(p:Program)(w:World)(n0:Nat)(ann:Option Value):Nat->SharedT->Thread->Option SharedT
 | 0,_,_=>none
 |n+1,s,t=>match through t with
  |true=>some s
  |false=>match stepOk n0 ann t with
   |false=>none
   |true=>match stepT (denote tb) p w s t with
    |some (s',t')=>Iu tb p w n0 ann n s' t'
    |none=>none
theorem O6:Iu tb p w n0 ann (n+1) s t=match through t with
  |true=>some s
  |false=>match stepOk n0 ann t with
   |false=>none
   |true=>match stepT (denote tb) p w s t with
    |some (s',t')=>Iu tb p w n0 ann n s' t'
    |none=>none:=rfl
theorem O5:∀{n:Nat} {s s':SharedT} {t:Thread},Iu tb p w n0 ann n s t=some s'->topRun tb p w n0 ann n s.abs t=some s'.abs
 | 0,_,_,_,h=>by cases h
 |n+1,s,s',t,h=>by
  rw[O6]at h;unfold topRun;cases he:through t with
  |true=>rw[he]at h;obtain rfl:=Ak h;rfl
  |false=>
   rw[he]at h;cases hk:stepOk n0 ann t with
   |false=>rw[hk]at h;cases h
   |true=>
    rw[hk]at h;cases hs:stepT (denote tb) p w s t with
    |none=>rw[hs]at h;cases h
    |some r=>obtain⟨s₂,t₂⟩:=r;rw[hs]at h;rw[stepT_spec hs];exact O5 h
noncomputable def Iw(p:Program)(w:World)(n0:Nat)(ann:Option Value):Nat->SharedT->Thread->Option SharedT
 | 0,_,_=>none
 |n+1,s,t=>match through t with
  |true=>some s
  |false=>match Fast.tw6613529449190102663 n0 ann t with
   |false=>none
   |true=>match Fast.tw10156331382660048174 (Fast.tw11892475500146522536 Fast.tw14364793385576792824) p w s t with
    |some (s',t')=>Iw p w n0 ann n s' t'
    |none=>none
theorem TK:Iw p w n0 ann (n+1) s t=match through t with
  |true=>some s
  |false=>match Fast.tw6613529449190102663 n0 ann t with
   |false=>none
   |true=>match Fast.tw10156331382660048174 (Fast.tw11892475500146522536 Fast.tw14364793385576792824) p w s t with
    |some (s',t')=>Iw p w n0 ann n s' t'
    |none=>none:=rfl
theorem On:∀(n:Nat) (s:SharedT) (t:Thread),Iw p w n0 ann n s t=Iu treeTable p w n0 ann n s t
 | 0,_,_=>rfl
 |n+1,s,t=>by
  rw[TK,O6,<-Fast.te6613529449190102663,<-Fast.te10156331382660048174,<-Fast.te11892475500146522536,<-Fast.te14364793385576792824];cases through t with
  |true=>rfl
  |false=>
   cases stepOk n0 ann t with
   |false=>rfl
   |true=>
    cases stepT (denote treeTable) p w s t with
    |none=>rfl
    |some r=>exact On n r.1 r.2
noncomputable def MP(w:World)(os:OsState):SharedT:=⟨Hi (boot_heap w.params).objs.toList,(boot_heap w.params).objs.size,(boot_heap w.params).life,Array.mk [],boot_drawn,boot_toks,os⟩
theorem Xr{p q:Program}{loose:List Str}{Xt:Shared->Bool}{α:Type}{Yf:Shared->α}{YT:SharedT->α}{Ya:World->α}{N:Nat}{g0:Bool}{ann:Option Value}{m₀:Nat}(hY:∀s,Yf s.abs=YT s)
  (e:opening p=plainProg p.main.scope.names)(hN:Nat.ble 600 N=true)(f:∀s,fenceModules? p s=some s)
  (size:∀w:World,((boot_heap w.params).isNs mainGlobals,(boot_heap w.params).objs.size,(boot_heap w.params).nsMap mainGlobals "__annotations__")=(true,m₀,ann))
  (run:∀(w:World) (os:OsState),(Iw p w m₀ ann N (MP w os) (topStub p)).map (λs=>
   (staticsOk (importedModules p.main.body) (boot_heap w.params) s.abs.heap&&namesBound p s.abs.heap&&gensDone s.abs&&laidKept (boot_heap w.params) s.abs.heap,Fast.tw4187177175401517315 q loose (importedModules p.main.body) Xt g0 s.abs,YT s))=some (true,openGood q loose,Ya w)) :
  LeftO p q loose Xt Yf Ya N g0:=λw=>by
 refine e12 (map_eq_some_iff.mp (boot_open e hN f w)) λz10 e1 e2=>?_;obtain⟨h,gs,d,k,os⟩:=z10;obtain⟨rfl,rfl,rfl,rfl⟩:h=boot_heap w.params/\gs=Array.mk []/\d=boot_drawn/\k=boot_toks:=by simpa using e2
 obtain⟨z1,z2,z3⟩:_/\_/\_:=by simpa only[Prod.mk.injEq]using size w
 refine e12 (map_eq_some_iff.mp (run w os)) λs₁ r1 r2=>?_;obtain⟨l1,l2,l3⟩:_/\_/\_:=by simpa only[Prod.mk.injEq]using r2
 rw[On]at r1;rw[<-Fast.te4187177175401517315]at l2;have r3:=O5 r1;have ab:(MP w os).abs=⟨boot_heap w.params,Array.mk [],boot_drawn,boot_toks,os⟩:=by
  unfold MP SharedT.abs;rw[XN]
 rw[ab]at r3;have t:topFrom treeTable p w N ⟨boot_heap w.params,Array.mk [],boot_drawn,boot_toks,os⟩=some s₁.abs:=by
  unfold topFrom;dsimp only;rw[z1,z2,z3,r3];show(match staticsOk (importedModules p.main.body) (boot_heap w.params) s₁.abs.heap&&namesBound p s₁.abs.heap&&gensDone s₁.abs&&laidKept (boot_heap w.params) s₁.abs.heap with|true=>_|false=>_)=_;rw[l1]
 unfold openEnds;rw[e1];show(topFrom treeTable p w N _).map _=_;rw[t];exact congrArg some (Prod.ext l2 ((hY s₁).trans l3))
noncomputable def IA(h:Heap)(as:List Addr):Frag:=as.filterMap λa=>(h.get? a).map λo=>(a,o)
theorem UQ:(IA h as).In h:=by
 intro a o e
 induction as with
 |nil=>cases e
 |cons b r ih=>
  unfold IA at e ih;rw[filterMap_cons]at e;cases hb:h.get? b with
  |none=>rw[hb]at e;exact ih e
  |some ob=>
   rw[hb]at e;simp only[map_some]at e;rw[lookup_cons]at e;cases hab:a==b with
   |true=>rw[hab]at e;obtain rfl:=Ak e;exact rl (beq_iff_eq.mp hab) hb
   |false=>rw[hab]at e;exact ih e
theorem Wx:(absHeap t n life).get? a=if a<n then alive ((t.get a).getD default) else none:=by
 unfold Heap.get?;refine rl (absHeap_at ..) ?_;by_cases h:a<n
 ·refine rl (if_pos h ..) (rl (if_pos h ..) ?_);generalize(t.get a).getD default=o;obtain⟨c,d,dt,sl⟩:=o;cases dt<;>rfl
 ·exact rl (if_neg h) (rl (if_neg h) rfl)
noncomputable def Fq(t:BT)(n:Nat):List Addr->Frag
 |[]=>[]
 |a::r=>match Nat.blt a n with
  |true=>(match alive ((t.get a).getD default)with
   |some o=>(a,o)::Fq t n r
   |none=>Fq t n r)
  |false=>Fq t n r
theorem XD:Fq t n (a::r)=match Nat.blt a n with
  |true=>(match alive ((t.get a).getD default)with
   |some o=>(a,o)::Fq t n r
   |none=>Fq t n r)
  |false=>Fq t n r:=rfl
theorem PG:∀{as:List Addr},IA (absHeap t n life) as=Fq t n as
 |[]=>rfl
 |a::r=>by
  have ih:=PG (t:=t) (n:=n) (life:=life) (as:=r);unfold IA at ih⊢;rw[filterMap_cons,XD,ih,Wx];cases h:Nat.blt a n with
  |true=>
   rw[if_pos (show a<n from Nat.le_of_ble_eq_true h)];cases alive ((t.get a).getD default)<;>rfl
  |false=>
   rw[if_neg (λq=>by rw[show Nat.blt a n=true from Nat.ble_eq_true_of_le q]at h;trivial)];rfl
noncomputable def P6(P:Pg)(as:List Addr):Hook where
 α:=Bool
 obs s:=He (IA s.heap as) P
 val _:=true
 says _ h:=∃K:Frag,K.In h/\He K P=true
 of _ s e:=⟨_,UQ,e⟩
 keeps _ _ _:=λ⟨K,a,b⟩ k=>⟨K,Frag.In.keeps a k,b⟩
theorem T_(s:SharedT):(P6 P as).obs s.abs=He (Fq s.tree s.n as) P:=congrArg (He · P) PG
def Gh(H H':Ac):Prop:=∀H₁,Real H H₁->Real H' H₁
theorem St.gh(S:St c R H h)(g:Gh H H'):St c R H' h:=let ⟨H₁,s,r⟩:=S;⟨H₁,s,g H₁ r⟩
theorem ExcSt.gh(X:ExcSt c R H e cl fl h)(g:Gh H H'):ExcSt c R H' e cl fl h:=let ⟨H₁,s,r⟩:=X;⟨H₁,s,g H₁ r⟩
theorem CallOK.post(h:CallOK c n md f args Q E H)(k:∀v H,Q v H->∃H',Gh H H'/\Q' v H')(e:∀cl H,E cl H->∃H',Gh H H'/\E' cl H'):CallOK c n md f args Q' E' H:=
 λA stk R s vals Rs a b d v p q=>h A stk R s vals Rs a b d v (λav v s' H' x y z w=>let ⟨H'',g,w'⟩:=k _ _ w;p av v s' H'' x (y.gh g) z w') (λee cl s' H' x y z=>let ⟨H'',g,w'⟩:=e _ _ z;q ee cl s' H'' (x.gh g) y w')
structure Fr1(o:Addr->Option Role)(H:Ac)(o':Addr->Option Role)(H':Ac):Prop where
 old:∀a x,H a=some x->o a=none->H' a=some x/\o' a=none
 gr:∀a,H' a=none->H a=none
theorem Cm(h:up H x y a=none):H a=none:=by
 by_cases e:a=x
 ·rw[e,Ah]at h;cases h
 ·rw[Ag e]at h;exact h
theorem Fr1.refl:Fr1 o H o H:=⟨λ_ _ h k=>⟨h,k⟩,λ_ h=>h⟩
theorem Fr1.trans(x:Fr1 o H o' H')(y:Fr1 o' H' o'' H''):Fr1 o H o'' H'':=⟨λa z h k=>y.old a z (x.old a z h k).1 (x.old a z h k).2,λa h=>x.gr a (y.gr a h)⟩
theorem D_(hb:H b=some (.book B))
  (h:∀H₂ o f' s p as,IsBook o H₂ b f' s p as B->(∀a x,H a=some x->a≠b->H₂ a=some x/\o a=none)->
   CallOK c n md f args
    (λv H'=>∃o' f' s p as B',IsBook o' H' b f' s p as B'/\Fr1 o H₂ o' H'/\((∀a,v≠.ref a)/\Q v (up H b (.book B'))\/∃z xs,v = .ref z/\H z=none/\H' z=some (.list xs)/\o' z=none/\Q v (up (up H b (.book B')) z (.list xs))))
    (λcl H'=>∃o' f' s p as B',IsBook o' H' b f' s p as B'/\Fr1 o H₂ o' H'/\E cl (up H b (.book B'))) H₂):CallOK c n md f args Q E H:=by
 intro A stk R s vals Rs a1 a2 S a4 kQ kE;refine e12 S λH₁ S1 r=>?_;obtain⟨H₂,o,f',sa,p,as,r2,ib,hold⟩:=r.unpack hb;have CZ:∀H' o' f' s p as B',IsBook o' H' b f' s p as B'->Fr1 o H₂ o' H'->Gh H' (up H b (.book B')):=λH' o' f' s p as B' ib' fr H₁ r=>by
  refine r.pack ib' λa x e=>?_;by_cases z:a=b
  ·subst z;rw[Ah]at e;cases e;exact .inl ⟨rfl,rfl⟩
  ·rw[Ag z]at e;exact Ap (hold a x e z) λe1 e2=>Ap (fr.old a x e1 e2) λe3 e4=>.inr ⟨z,e4,e3⟩
 refine(CallOK.post (h H₂ o f' sa p as ib hold) (λv H' q=>?_) λcl H' q=>?_) A stk R s vals Rs a1 a2 ⟨H₁,S1,r2⟩ a4 kQ kE
 ·obtain⟨o',f',s,p,as,B',ib',fr,q|⟨z,xs,rfl,hz,hz',ho,q⟩⟩:=q
  ·exact⟨_,CZ _ _ _ _ _ _ _ ib' fr,q.2⟩
  ·refine⟨_,λH₁ r=>?_,q⟩;refine r.pack ib' λa x e=>?_;have hzb:z≠b:=λw=>by rw[w,hb]at hz;cases hz
   by_cases w:a=z
   ·subst w;rw[Ah]at e;cases e;exact .inr ⟨hzb,ho,hz'⟩
   ·rw[Ag w]at e;by_cases y:a=b
    ·subst y;rw[Ah]at e;cases e;exact .inl ⟨rfl,rfl⟩
    ·rw[Ag y]at e;exact Ap (hold a x e y) λe1 e2=>Ap (fr.old a x e1 e2) λe3 e4=>.inr ⟨y,e4,e3⟩
 ·obtain⟨o',f',s,p,as,B',ib',fr,q⟩:=q;exact⟨_,CZ _ _ _ _ _ _ _ ib' fr,q⟩
theorem Bu(h:H a=some (.list xs)):B6 H (.ref a)=some xs:=show B6 (λ_=>H a) (.ref a)=some xs from h▸rfl
theorem WS(h:H a=some (.tuple xs)):B6 H (.ref a)=some xs:=show B6 (λ_=>H a) (.ref a)=some xs from h▸rfl
theorem I0(h:H a=some (.range l m)):B6 H (.ref a)=some ((List.range (m - l).toNat).map λ(k:Nat)=>AV.int (l+k)):=show B6 (λ_=>H a) (.ref a)=_ from h▸rfl
theorem WE(h:H a=some (.list xs)):DA H (.ref a)=some "list":=show DA (λ_=>H a) (.ref a)=_ from h▸rfl
theorem Cp(hV:V[i]? =some (some (.ref a)))(h:H a=some (.inst cl es))
  (q:g.c.P.attrs.contains (cl,n)=true/\(match C5 es n with|some v=>Q v H|none=>False)):Aj g (.attr (.var i) n) V Q E H:=by
 dsimp only[BO,Ad];refine rl hV ?_;dsimp only;exact rl h q
theorem Jh(hV:V[i]? =some (some (.ref a)))(h:H a=some (.inst cl es))
  (q:g.c.P.meths.contains (cl,m)=true/\C5 es m=none/\Ay g xs V (λvs H=>CallOK g.c g.n g.md (cl++"."++m) (.ref a::vs) Q E H) E H):Aj g (.meth (.var i) m xs) V Q E H:=by
 dsimp only[BE,Ad];refine rl hV ?_;dsimp only;exact rl h q
namespace BK
noncomputable def Zc:Fn:=⟨4,["names","needs","kept","done","found","name"],[
 .assign (.var 4) (.list []),
 .for (.var 5) (.var 0) [.ite (.cmp .Eq (.comp (.var 6) 1 false (.sub (.var 1) (.var 5)) (some (.ao true [(.cmp .NotIn (.var 6) (.var 2)),(.cmp .NotIn (.var 6) (.var 3))]))) (.list [])) [.expr (.bm (.var 4) .append [(.var 5)])] []],
 .ret (.var 4)]⟩
noncomputable def Zd:Fn:=⟨1,["names","table","name"],[
 .assign (.var 1) (.dict [] []),
 .for (.var 2) (.var 0) [.assign (.sub (.var 1) (.var 2)) (.lit (.bool true))],
 .ret (.var 1)]⟩
noncomputable def Zg:Fn:=⟨3,["full","needs","done","ready","names","found"],[
 .assign (.var 3) (.call "table_of" [(.var 2)]),
 .assign (.var 4) (.prim .list [(.var 0)]),
 .assign (.var 5) (.call "are_met" [(.var 4),(.var 1),(.call "table_of" [(.var 4)]),(.var 3)]),
 .while (.cmp .Lt (.prim .len [(.var 5)]) (.prim .len [(.var 4)])) [.assign (.var 4) (.var 5),
  .assign (.var 5) (.call "are_met" [(.var 4),(.var 1),(.call "table_of" [(.var 4)]),(.var 3)])],
 .ret (.var 5)]⟩
noncomputable def Zk:Fn:=⟨4,["name","full","needs","done","ready","whole","ways","seen","place","way","last","one"],[
 .assign (.var 4) (.call "table_of" [(.var 3)]),
 .ite (.ao false [(.cmp .In (.var 0) (.var 4)),(.cmp .In (.var 0) (.call "greatest" [(.var 1),(.var 2),(.var 3)]))]) [.ret (.list [])] [],
 .assign (.var 5) (.call "table_of" [(.var 1)]),
 .assign (.var 6) (.list [(.list [(.var 0)])]),
 .assign (.var 7) (.dict [(.var 0)] [(.lit (.bool true))]),
 .assign (.var 8) (.lit (.int 0)),
 .while (.cmp .Lt (.var 8) (.prim .len [(.var 6)])) [.assign (.var 9) (.sub (.var 6) (.var 8)),
  .assign (.var 10) (.sub (.var 9) (.neg (.lit (.int 1)))),
  .ite (.cmp .NotIn (.var 10) (.var 5)) [.ret (.prim .list [(.var 9)])] [],
  .for (.var 11) (.sub (.var 2) (.var 10)) [.ite (.ao true [(.cmp .NotIn (.var 11) (.var 7)),(.cmp .NotIn (.var 11) (.var 4))]) [.assign (.sub (.var 7) (.var 11)) (.lit (.bool true)),
    .expr (.bm (.var 6) .append [(.bin .Add (.var 9) (.list [(.var 11)]))])] []],
  .assign (.var 8) (.bin .Add (.var 8) (.lit (.int 1)))],
 .ret (.list [])]⟩
noncomputable def Z3:Fn:=⟨1,["thing"],[
 .ret (.ao true [(.isinst (.var 0) "int"),(.not (.isinst (.var 0) "bool"))])]⟩
noncomputable def Z6:Fn:=⟨1,["thing","sign"],[
 .ite (.ao false [(.not (.isinst (.var 0) "str")),(.not (.cmp2 .LtE .LtE (.lit (.int 1)) (.prim .len [(.var 0)]) (.glob "MOST_SIGNS")))]) [.ret (.lit (.bool false))] [],
 .for (.var 1) (.var 0) [.ite (.cmp .NotIn (.var 1) (.glob "LETTERS")) [.ret (.lit (.bool false))] []],
 .ret (.lit (.bool true))]⟩
noncomputable def Z7:Fn:=⟨1,["thing"],[
 .ite (.not (.call "is_name" [(.var 0)])) [.raise "NoName" (ofString "no name")] [],
 .ret (.var 0)]⟩
noncomputable def Z8:Fn:=⟨1,["thing"],[
 .ite (.ao false [(.not (.call "is_whole" [(.var 0)])),(.not (.cmp2 .LtE .LtE (.lit (.int 1)) (.var 0) (.glob "MOST_AMOUNT")))]) [.raise "NoAmount" (ofString "no amount")] [],
 .ret (.var 0)]⟩
noncomputable def Zl:Fn:=⟨6,["self","name","parts","gains","needs","last"],[
 .assign (.attr (.var 0) "name") (.var 1),
 .assign (.attr (.var 0) "parts") (.var 2),
 .assign (.attr (.var 0) "gains") (.var 3),
 .assign (.attr (.var 0) "needs") (.var 4),
 .assign (.attr (.var 0) "last") (.var 5),
 .assign (.attr (.var 0) "state") (.lit (.str (ofString "open"))),
 .assign (.attr (.var 0) "inside") (.dict [] [])]⟩
noncomputable def Zm:Fn:=⟨2,["self","purse","pair"],[
 .for (.var 2) (.attr (.var 0) "parts") [.ite (.cmp .Eq (.sub (.var 2) (.lit (.int 0))) (.var 1)) [.ret (.sub (.var 2) (.lit (.int 1)))] []],
 .ret (.lit .none)]⟩
noncomputable def Za:Fn:=⟨1,["self"],[
 .ret (.ao true [(.cmp .Eq (.attr (.var 0) "state") (.lit (.str (ofString "open")))),(.cmp .Eq (.prim .len [(.attr (.var 0) "inside")]) (.prim .len [(.attr (.var 0) "parts")]))])]⟩
noncomputable def Z9:Fn:=⟨1,["self"],[
 .assign (.attr (.var 0) "day") (.lit (.int 0)),
 .assign (.attr (.var 0) "free") (.dict [] []),
 .assign (.attr (.var 0) "aside") (.dict [] []),
 .assign (.attr (.var 0) "pacts") (.dict [] [])]⟩
noncomputable def Zt:Fn:=⟨2,["self","purse"],[
 .ite (.ao false [(.not (.call "is_name" [(.var 1)])),(.cmp .NotIn (.var 1) (.attr (.var 0) "free"))]) [.raise "NoPurse" (ofString "no such purse")] []]⟩
noncomputable def ZA:Fn:=⟨2,["self","pact"],[
 .ite (.ao false [(.not (.call "is_name" [(.var 1)])),(.cmp .NotIn (.var 1) (.attr (.var 0) "pacts"))]) [.raise "NoPact" (ofString "no such pact")] [],
 .ret (.sub (.attr (.var 0) "pacts") (.var 1))]⟩
noncomputable def ZB:Fn:=⟨2,["self","pact","found"],[
 .assign (.var 2) (.meth (.var 0) "need_pact" [(.var 1)]),
 .ite (.cmp .NotEq (.attr (.var 2) "state") (.lit (.str (ofString "open")))) [.raise "NotOpen" (ofString "the pact isn't open")] [],
 .ret (.var 2)]⟩
noncomputable def ZC:Fn:=⟨2,["self","name"],[
 .expr (.call "name_of" [(.var 1)]),
 .ite (.cmp .In (.var 1) (.attr (.var 0) "free")) [.raise "Taken" (ofString "there is such a purse")] [],
 .assign (.sub (.attr (.var 0) "free") (.var 1)) (.lit (.int 0)),
 .assign (.sub (.attr (.var 0) "aside") (.var 1)) (.lit (.int 0))]⟩
noncomputable def Zn:Fn:=⟨3,["self","purse","amount"],[
 .expr (.meth (.var 0) "need_purse" [(.var 1)]),
 .assign (.sub (.attr (.var 0) "free") (.var 1)) (.bin .Add (.sub (.attr (.var 0) "free") (.var 1)) (.call "amount_of" [(.var 2)]))]⟩
noncomputable def Zo:Fn:=⟨2,["self","pairs","found","seen","pair"],[
 .ite (.not (.cmp2 .LtE .LtE (.lit (.int 1)) (.prim .len [(.var 1)]) (.glob "MOST"))) [.raise "NoRow" (ofString "one to eight pairs are wanted")] [],
 .assign (.var 2) (.list []),
 .assign (.var 3) (.dict [] []),
 .for (.var 4) (.var 1) [.expr (.meth (.var 0) "need_purse" [(.sub (.var 4) (.lit (.int 0)))]),
  .ite (.cmp .In (.sub (.var 4) (.lit (.int 0))) (.var 3)) [.raise "Twice" (ofString "a purse stands twice")] [],
  .assign (.sub (.var 3) (.sub (.var 4) (.lit (.int 0)))) (.lit (.bool true)),
  .expr (.bm (.var 2) .append [(.tuple [(.sub (.var 4) (.lit (.int 0))),(.call "amount_of" [(.sub (.var 4) (.lit (.int 1)))])])])],
 .ret (.var 2)]⟩
noncomputable def Zp:Fn:=⟨3,["self","name","needs","seen","one"],[
 .ite (.cmp .Gt (.prim .len [(.var 2)]) (.glob "MOST")) [.raise "NoRow" (ofString "up to eight needs are wanted")] [],
 .assign (.var 3) (.dict [(.var 1)] [(.lit (.bool true))]),
 .for (.var 4) (.var 2) [.expr (.call "name_of" [(.var 4)]),
  .ite (.cmp .In (.var 4) (.var 3)) [.raise "Twice" (ofString "a need stands twice")] [],
  .assign (.sub (.var 3) (.var 4)) (.lit (.bool true)),
  .ite (.ao true [(.cmp .In (.var 4) (.attr (.var 0) "pacts")),(.cmp .Eq (.attr (.sub (.attr (.var 0) "pacts") (.var 4)) "state") (.lit (.str (ofString "fallen"))))]) [.raise "Fallen" (ofString "a need has fallen")] []],
 .ret (.prim .list [(.var 2)])]⟩
noncomputable def Zu:Fn:=⟨6,["self","name","parts","gains","needs","last","ones","others","wanted"],[
 .expr (.call "name_of" [(.var 1)]),
 .ite (.cmp .In (.var 1) (.attr (.var 0) "pacts")) [.raise "Taken" (ofString "there is such a pact")] [],
 .assign (.var 6) (.meth (.var 0) "pairs_of" [(.var 2)]),
 .assign (.var 7) (.meth (.var 0) "pairs_of" [(.var 3)]),
 .ite (.cmp .NotEq (.prim .sum [(.comp (.sub (.var 9) (.lit (.int 1))) 1 false (.var 6) none)]) (.prim .sum [(.comp (.sub (.var 9) (.lit (.int 1))) 1 false (.var 7) none)])) [.raise "Uneven" (ofString "parts and gains come to different sums")] [],
 .assign (.var 8) (.meth (.var 0) "needs_of" [(.var 1),(.var 4)]),
 .ite (.ao false [(.not (.call "is_whole" [(.var 5)])),(.cmp .Lt (.var 5) (.attr (.var 0) "day"))]) [.raise "NoDay" (ofString "no day from now on")] [],
 .assign (.sub (.attr (.var 0) "pacts") (.var 1)) (.new "Pact" [(.var 1),(.var 6),(.var 7),(.var 8),(.var 5)])]⟩
noncomputable def Zv:Fn:=⟨3,["self","purse","pact","found","amount"],[
 .expr (.meth (.var 0) "need_purse" [(.var 1)]),
 .assign (.var 3) (.meth (.var 0) "need_open" [(.var 2)]),
 .assign (.var 4) (.meth (.var 3) "part_of" [(.var 1)]),
 .ite (.cmp .Is (.var 4) (.lit .none)) [.raise "NoPart" (ofString "the pact has no part of that purse")] [],
 .ite (.cmp .In (.var 1) (.attr (.var 3) "inside")) [.raise "Already" (ofString "the part is set aside already")] [],
 .ite (.cmp .Lt (.sub (.attr (.var 0) "free") (.var 1)) (.var 4)) [.raise "TooLittle" (ofString "less is free")] [],
 .assign (.sub (.attr (.var 3) "inside") (.var 1)) (.lit (.bool true)),
 .assign (.sub (.attr (.var 0) "free") (.var 1)) (.bin .Sub (.sub (.attr (.var 0) "free") (.var 1)) (.var 4)),
 .assign (.sub (.attr (.var 0) "aside") (.var 1)) (.bin .Add (.sub (.attr (.var 0) "aside") (.var 1)) (.var 4))]⟩
noncomputable def Zb:Fn:=⟨3,["self","purse","amount"],[
 .assign (.sub (.attr (.var 0) "aside") (.var 1)) (.bin .Sub (.sub (.attr (.var 0) "aside") (.var 1)) (.var 2)),
 .assign (.sub (.attr (.var 0) "free") (.var 1)) (.bin .Add (.sub (.attr (.var 0) "free") (.var 1)) (.var 2))]⟩
noncomputable def Ze:Fn:=⟨2,["self","pact","pair"],[
 .for (.var 2) (.attr (.var 1) "parts") [.ite (.cmp .In (.sub (.var 2) (.lit (.int 0))) (.attr (.var 1) "inside")) [.expr (.meth (.var 0) "given_back" [(.sub (.var 2) (.lit (.int 0))),(.sub (.var 2) (.lit (.int 1)))])] []],
 .assign (.attr (.var 1) "inside") (.dict [] []),
 .assign (.attr (.var 1) "state") (.lit (.str (ofString "fallen"))),
 .ret (.attr (.var 1) "name")]⟩
noncomputable def Zf:Fn:=⟨1,["self","pact","need"],[
 .for (.var 1) (.prim .list [(.bm (.attr (.var 0) "pacts") .values [])]) [.ite (.cmp .Eq (.attr (.var 1) "state") (.lit (.str (ofString "open")))) [.for (.var 2) (.attr (.var 1) "needs") [.ite (.ao true [(.cmp .In (.var 2) (.attr (.var 0) "pacts")),(.cmp .Eq (.attr (.sub (.attr (.var 0) "pacts") (.var 2)) "state") (.lit (.str (ofString "fallen"))))]) [.ret (.var 1)] []]] []],
 .ret (.lit .none)]⟩
noncomputable def Zh:Fn:=⟨2,["self","names","found","pact"],[
 .assign (.var 2) (.prim .list [(.var 1)]),
 .assign (.var 3) (.meth (.var 0) "first_dragged" []),
 .while (.cmp .IsNot (.var 3) (.lit .none)) [.expr (.bm (.var 2) .append [(.meth (.var 0) "fell" [(.var 3)])]),
  .assign (.var 3) (.meth (.var 0) "first_dragged" [])],
 .ret (.var 2)]⟩
noncomputable def Zw:Fn:=⟨2,["self","pact"],[
 .ret (.meth (.var 0) "dragged" [(.list [(.meth (.var 0) "fell" [(.meth (.var 0) "need_open" [(.var 1)])])])])]⟩
noncomputable def Zi:Fn:=⟨1,["self","ready","needs","done","pact"],[
 .assign (.var 1) (.list []),
 .assign (.var 2) (.dict [] []),
 .assign (.var 3) (.list []),
 .for (.var 4) (.prim .list [(.bm (.attr (.var 0) "pacts") .values [])]) [.ite (.meth (.var 4) "is_full" []) [.expr (.bm (.var 1) .append [(.attr (.var 4) "name")]),
   .assign (.sub (.var 2) (.attr (.var 4) "name")) (.prim .list [(.attr (.var 4) "needs")])] [],
  .ite (.cmp .Eq (.attr (.var 4) "state") (.lit (.str (ofString "done")))) [.expr (.bm (.var 3) .append [(.attr (.var 4) "name")])] []],
 .ret (.tuple [(.var 1),(.var 2),(.var 3)])]⟩
noncomputable def Zx:Fn:=⟨1,["self","found","names","name","pact","pair"],[
 .assign (.var 1) (.meth (.var 0) "standing" []),
 .assign (.var 2) (.call "greatest" [(.sub (.var 1) (.lit (.int 0))),(.sub (.var 1) (.lit (.int 1))),(.sub (.var 1) (.lit (.int 2)))]),
 .for (.var 3) (.var 2) [.assign (.var 4) (.sub (.attr (.var 0) "pacts") (.var 3)),
  .for (.var 5) (.attr (.var 4) "parts") [.assign (.sub (.attr (.var 0) "aside") (.sub (.var 5) (.lit (.int 0)))) (.bin .Sub (.sub (.attr (.var 0) "aside") (.sub (.var 5) (.lit (.int 0)))) (.sub (.var 5) (.lit (.int 1))))],
  .for (.var 5) (.attr (.var 4) "gains") [.assign (.sub (.attr (.var 0) "free") (.sub (.var 5) (.lit (.int 0)))) (.bin .Add (.sub (.attr (.var 0) "free") (.sub (.var 5) (.lit (.int 0)))) (.sub (.var 5) (.lit (.int 1))))],
  .assign (.attr (.var 4) "inside") (.dict [] []),
  .assign (.attr (.var 4) "state") (.lit (.str (ofString "done")))],
 .ret (.var 2)]⟩
noncomputable def Zq:Fn:=⟨2,["self","pact","found"],[
 .expr (.meth (.var 0) "need_pact" [(.var 1)]),
 .assign (.var 2) (.meth (.var 0) "standing" []),
 .ret (.call "chain" [(.var 1),(.sub (.var 2) (.lit (.int 0))),(.sub (.var 2) (.lit (.int 1))),(.sub (.var 2) (.lit (.int 2)))])]⟩
noncomputable def ZE:Fn:=⟨1,["self"],[
 .ret (.prim .list [(.attr (.var 0) "pacts")])]⟩
noncomputable def Zy:Fn:=⟨2,["self","pact"],[
 .ret (.attr (.meth (.var 0) "need_pact" [(.var 1)]) "state")]⟩
noncomputable def Zz:Fn:=⟨2,["self","pact"],[
 .ret (.meth (.meth (.var 0) "need_pact" [(.var 1)]) "is_full" [])]⟩
noncomputable def Z0:Fn:=⟨2,["self","count","names","pact"],[
 .ite (.ao false [(.not (.call "is_whole" [(.var 1)])),(.cmp .Lt (.var 1) (.lit (.int 1)))]) [.raise "NoDay" (ofString "no count of days")] [],
 .assign (.attr (.var 0) "day") (.bin .Add (.attr (.var 0) "day") (.var 1)),
 .assign (.var 2) (.list []),
 .for (.var 3) (.prim .list [(.bm (.attr (.var 0) "pacts") .values [])]) [.ite (.ao true [(.cmp .Eq (.attr (.var 3) "state") (.lit (.str (ofString "open")))),(.cmp .Lt (.attr (.var 3) "last") (.attr (.var 0) "day"))]) [.expr (.bm (.var 2) .append [(.meth (.var 0) "fell" [(.var 3)])])] []],
 .ret (.meth (.var 0) "dragged" [(.var 2)])]⟩
noncomputable def Z1:Fn:=⟨2,["_law_script","_law_k"],[
 .ite (.cmp .Lt (.var 1) (.prim .len [(.var 0)])) [.ret (.sub (.var 0) (.var 1))] [],
 .ret (.lit (.int 0))]⟩
noncomputable def Zj:Fn:=⟨2,["_law_number","_law_k"],[
 .ret (.bin .Mod (.bin .Add (.bin .Add (.bin .Mult (.var 0) (.lit (.int 6364136223846793005))) (.bin .Mult (.var 1) (.lit (.int 1442695040888963407)))) (.lit (.int 1013904223))) (.lit (.int 2305843009213693951)))]⟩
end BK
namespace BK
noncomputable def consts:List (String×AV):=[("LETTERS",(.str (ofString "abcdefghijklmnopqrstuvwxyz"))),("MOST_SIGNS",(.int 12)),("MOST_AMOUNT",(.int 1000000000000000000000000000000)),("MOST",(.int 8))]
noncomputable def meths:List (String×String):=[("Pact","__init__"),("Pact","part_of"),("Pact","is_full"),("Book","__init__"),("Book","need_purse"),("Book","need_pact"),("Book","need_open"),("Book","open_purse"),("Book","put"),("Book","take"),("Book","pairs_of"),("Book","needs_of"),("Book","tell"),("Book","set_aside"),("Book","given_back"),("Book","draw_back"),("Book","fell"),("Book","first_dragged"),("Book","dragged"),("Book","call_off"),("Book","pass_days"),("Book","standing"),("Book","settle"),("Book","why_not"),("Book","purses"),("Book","told"),("Book","free_of"),("Book","aside_of"),("Book","state_of"),("Book","inside_of"),("Book","full")]
noncomputable def attrs:List (String×String):=[("Book","aside"),("Book","day"),("Book","free"),("Book","pacts"),("Pact","gains"),("Pact","inside"),("Pact","last"),("Pact","name"),("Pact","needs"),("Pact","parts"),("Pact","state")]
end BK
structure Dv(P:Pg):Prop where
 meths:P.meths=BK.meths
 attrs:P.attrs=BK.attrs
 consts:P.consts=BK.consts
 is_whole:P.fns.lookup "is_whole"=some BK.Z3
 is_name:P.fns.lookup "is_name"=some BK.Z6
 name_of:P.fns.lookup "name_of"=some BK.Z7
 amount_of:P.fns.lookup "amount_of"=some BK.Z8
 init:P.fns.lookup "Book.__init__"=some BK.Z9
 need_purse:P.fns.lookup "Book.need_purse"=some BK.Zt
 open_purse:P.fns.lookup "Book.open_purse"=some BK.ZC
 put:P.fns.lookup "Book.put"=some BK.Zn
 told:P.fns.lookup "Book.told"=some BK.ZE
noncomputable def CE:AV->Bool
 | .str s=>A9 s
 |_=>false
noncomputable def GS:AV->Bool
 | .int _=>true
 |_=>false
noncomputable def DI:AV->Bool
 | .int i=>decide (1<=i/\i<=1000000000000000000000000000000)
 |_=>false
def Kn(H:Ac)(v:AV):Prop:=(∃k,DA H v=some k)/\∀s,v = .str s->s.length<2 ^ 62
theorem Jn(hx:B6 H v=some xs)(I:Nat->VV->Ac->Prop)(h0:I 0 V H)
  (hs:∀k V' H',I k V' H'->DM H H' v/\(k=xs.length->QN V' H')/\∀x,xs[k]? =some x->stp x (I (k+1)) V' H'):Bq QN stp v V H:=⟨xs,hx,I,h0,hs⟩
section
variable(G:Gd c P)(U:Dv P)
theorem Xx:∀o:Option AObj,DA (λ_=>o) (.ref a)≠some "str"
 |none,h=>by trivial
 |some x,h=>by cases x<;>first|trivial|exact absurd (Ak h) (by decide)
theorem Wg(h:DA H v=some "str"):∃s,v = .str s:=by
 cases v with
 |str s=>exact⟨s,rfl⟩
 |ref a=>exact absurd h (Xx (a:=a) (H a))
 |_=>exact absurd (Ak h) (by decide)
theorem VU(hk:DA H v=some k)(h:k≠"str"):CE v=false:=by
 cases v with
 |str s=>exact absurd (Ak hk).symm h
 |_=>rfl
theorem R_{g:Gx}(hmd:g.md=true){s:Str}{e:X}{V}{QN}{E}(he:∀V H Q E,Aj g e V Q E H=Q (.str letters) H)(hV:V=[some (.str s),none])(h1:(s.cps.toList.all λch=>letters.cps.toList.contains ch)=true->∀a,QN [some (.str s),a] H)(h2:(s.cps.toList.all λch=>letters.cps.toList.contains ch)=false->Q (.bool false) H) :
  A4 g (.for (.var 1) (.var 0) [.ite (.cmp .NotIn (.var 1) e) [.ret (.lit (.bool false))] []]) QN Q E V H:=by
 subst hV;dsimp only[A7,Bp,At,AP,Cz,BX,CT,Dq,Dz];refine⟨hmd,?_⟩;dsimp only[Aw,Aq,Ad,Av,Bo,AF,Am,Ar,Bd,Au,Bf,A_,A6,A1,Ax,Ba,AB,AN,Bg,An,Al,AT,AQ,Do,Df,CR,Dg,tv,AC,AM,B_,C7,De,Ds,BW,B7,Er,D9,Bc,Bx,Bw,Cq,AD,Ce,CF,Dd,AS,C1,Az,Eo,Eg,BG,Ci,A7,Bp,At,AP,Cz];refine Jn (xs:=s.cps.toList.map λch=>AV.str ⟨#[ch]⟩) rfl (λk V' H'=>H'=H/\(∃a,V'=[some (.str s),a])/\∀ch∈s.cps.toList.take k,letters.cps.toList.contains ch=true) ⟨rfl,⟨_,rfl⟩,by simp⟩ ?_;rintro k V' H' ⟨rfl,⟨a,rfl⟩,hin⟩;refine⟨trivial,λhk=>h1 ?_ a,λx hx=>?_⟩
 ·rw[hk,length_map,take_length]at hin;rw[all_eq_true];exact hin
 ·rw[getElem?_map,map_eq_some_iff]at hx;obtain⟨ch,hch,rfl⟩:=hx;dsimp only[length_cons,length_nil,Nat.reduceAdd,set_cons_succ,set_cons_zero,getElem?_cons_succ,Aw];simp[he,Aw,Aq,Ad,Av,Bo,AF,Am,Ar,Bd,Au,Bf,A_,A6,A1,Ax,Ba,AB,AN,Bg,An,Al,AT,AQ,Do,Df,CR,Dg,tv,AC,AM,B_,C7,De,Ds,BW,B7,Er,D9,Bc,Bx,Bw,Cq,AD,Ce,CF,Dd,AS,C1,Az,Eo,Eg,BG,Ci,A7,Bp,At,AP,Cz];refine⟨ch,rfl,?_⟩;cases hc:letters.cps.toList.contains ch with
  |true=>
   dsimp only[Az];simp;intro ch' hch';rw[take_add_one,hch]at hch';rcases mem_append.mp hch' with h|h
   ·simpa using hin ch' h
   ·simp at h;subst h;simpa using hc
  |false=>
   dsimp only[Az];simp;apply h2;rw[List.all_eq_false];exact⟨ch,mem_of_getElem? hch,by rw[hc];simp⟩
theorem IF(hk:DA H v=some k)(ht:ty="int"\/ty="bool"\/ty="str"\/ty="list"):DH P H v ty=some (k==ty||(k=="bool"&&ty=="int")):=by
 unfold DH;rw[if_pos ht,hk];rfl
theorem IK(hV:V[i]? =some (some v))(h:DH g.c.P H v ty=some b)(q:Q (.bool b) H):Aj g (.isinst (.var i) ty) V Q E H:=by
 rw[Ba,Ad,hV];show match DH g.c.P H v ty with|some b=>Q (.bool b) H|none=>False
 rw[h];exact q
theorem Jo{g:Gx}{V:VV}{n}(h:g.c.P.consts.lookup n=some v)(q:Q v H):Aj g (.glob n) V Q E H:=by
 rw[A_,h];exact q
include G U
theorem Lv{v:AV}(hk:Kn H v)(q:Q (.bool (CE v)) H):CallOK c (n+1) true "is_name" [v] Q E H:=by
 obtain⟨⟨k,hk⟩,hl⟩:=hk;refine G.call (F:=BK.Z6) U.is_name rfl ?_;have hg:c.P.consts.lookup "MOST_SIGNS"=some (.int 12):=by rw[G.hP,U.consts];rfl
 have hg2:c.P.consts.lookup "LETTERS"=some (.str letters):=by rw[G.hP,U.consts];rfl
 have hi:=IF (P:=c.P) (ty:="str") hk (.inr (.inr (.inl rfl)));show Af _ _ _ _ _ [some v,none] _;refine Ab λK nx=>?_;rw[A7,Am,AQ,AF];by_cases hks:k="str"
 ·subst hks;obtain⟨s,rfl⟩:=Wg hk;have hl:=hl s rfl;refine IK (b:=true) rfl hi ?_;rw[Az];show BN _ false [_] _ _ _ _;rw[AT,AF,Bd,Aq,A1,Al,Ad];show Ay _ [] _ _ _ _;rw[An,JW];refine⟨hl,?_⟩;rw[Bx,Az];by_cases a:(1:Int)<=s.length
  ·rw[decide_eq_true a,if_pos rfl];refine Jo hg ?_;rw[Bx,Az];by_cases b:(s.length:Int)<=12
   ·rw[decide_eq_true b];refine nx _ _<|Ab λK nx=>R_ rfl (λV H Q E=>by rw[A_,hg2]) rfl (λh a'=>nx _ _ ?_) (λh=>?_)
    ·have:CE (.str s)=true:=by show A9 s=true;unfold A9;rw[h,Bool.and_true];exact decide_eq_true ⟨by lia,by lia⟩
     rw[this]at q;exact q
    ·have:CE (.str s)=false:=by show A9 s=false;unfold A9;rw[h,Bool.and_false]
     rw[this]at q;exact q
   ·rw[decide_eq_false b];have:CE (.str s)=false:=by show A9 s=false;unfold A9;rw[decide_eq_false (by lia),Bool.false_and]
    rw[this]at q;exact q
  ·rw[decide_eq_false a,if_neg Bool.false_ne_true];have:CE (.str s)=false:=by show A9 s=false;unfold A9;rw[decide_eq_false (by lia),Bool.false_and]
   rw[this]at q;exact q
 ·refine IK (b:=false) rfl (by rw[hi,show(k=="str")=false from beq_false_of_ne hks];show some (false||(k=="bool"&&false))=some false;rw[Bool.and_false];rfl) ?_;rw[VU hk hks]at q;exact q
theorem Mk(hk:Kn H v)(q:if CE v then Q v H else E "NoName" H):CallOK c (n+2) true "name_of" [v] Q E H:=by
 refine G.call (F:=BK.Z7) U.name_of rfl ?_;show Af _ _ _ _ _ [some v] _;refine Ab λK nx=>?_;rw[A7,AF,A6,Al,Ad];show CallOK _ _ _ _ [v] _ _ _;refine Lv G U hk ?_;revert q;cases CE v with
 |true=>exact λq=>nx _ _ q
 |false=>exact λq=>⟨rfl,q⟩
omit G U in
theorem TJ(h:DA H v=some k):GS v=(k=="int"):=by
 cases v with
 |ref a=>
  have w:∀o:Option AObj,DA (λ_=>o) (.ref a)=some k->false=(k=="int"):=λo h=>by
   cases o with
   |none=>trivial
   |some x=>cases x<;>first|trivial|(obtain rfl:=Ak h;rfl)
  exact w (H a) h
 |_=>cases h;rfl
theorem Lp(hk:Kn H v)(q:Q (.bool (GS v)) H):CallOK c (n+1) md "is_whole" [v] Q E H:=by
 obtain⟨⟨k,hk⟩,_⟩:=hk;refine G.call (F:=BK.Z3) U.is_whole rfl ?_;show Af _ [_] _ _ _ [some v] _;rw[BG,Bp,Am,AQ];refine IK rfl (IF hk (.inl rfl)) ?_;rw[Az];rw[TJ hk]at q;by_cases h1:k="int"
 ·subst h1;show BN _ true [_] _ _ _ _;rw[AT,AF];exact IK (b:=false) rfl (IF hk (.inr (.inl rfl))) q
 ·by_cases h2:k="bool"
  ·subst h2;show BN _ true [_] _ _ _ _;rw[AT,AF];exact IK (b:=true) rfl (IF hk (.inr (.inl rfl))) q
  ·rw[beq_false_of_ne h1]at q;rw[beq_false_of_ne h1,beq_false_of_ne h2];exact q
theorem Pj(hk:Kn H v)(q:if DI v then Q v H else E "NoAmount" H):CallOK c (n+2) true "amount_of" [v] Q E H:=by
 refine G.call (F:=BK.Z8) U.amount_of rfl ?_;have hg:c.P.consts.lookup "MOST_AMOUNT"=some (.int 1000000000000000000000000000000):=by rw[G.hP,U.consts];rfl
 show Af _ _ _ _ _ [some v] _;refine Ab λK nx=>?_;rw[A7,Am,AQ,AF,A6,Al,Ad];show CallOK _ _ _ _ [v] _ _ _;refine Lp G U hk ?_;cases v with
 |int i=>
  rw[Az];show BN _ false [_] _ _ _ _;rw[AT,AF,Bd,Aq,Ad];show AA .LtE (.int 1) (.int i) _ _;rw[Bx,Az];by_cases a:1<=i
  ·rw[decide_eq_true a,if_pos rfl];refine Jo hg ?_;rw[Bx,Az];by_cases b:i<=1000000000000000000000000000000
   ·rw[decide_eq_true b];rw[show DI (.int i)=true from decide_eq_true ⟨a,b⟩,if_pos rfl]at q;exact nx _ _ q
   ·rw[decide_eq_false b];rw[show DI (.int i)=false from decide_eq_false λh=>b h.2,if_neg Bool.false_ne_true]at q;exact⟨rfl,q⟩
  ·rw[decide_eq_false a,if_neg Bool.false_ne_true];rw[show DI (.int i)=false from decide_eq_false λh=>a h.1,if_neg Bool.false_ne_true]at q;exact⟨rfl,q⟩
 |_=>exact⟨rfl,q⟩
end
theorem JP:Bb (dI l) k=(lk l k).map .int:=by
 induction l with
 |nil=>rfl
 |cons e r ih=>
  unfold Bb lk dI at*;dsimp only[map_cons,find?_cons];by_cases h:e.1=k
  ·simp[h]
  ·simp[h];simpa using ih
theorem GQ:AI (dI l) k (.int i)=dI (pt l k i):=by
 unfold AI pt;refine rl JP (rl isSome_map ?_);split
 ·unfold dI;refine rl map_map (rl map_map ?_);congr 1
  funext e
  simp only[Function.comp];split<;>rfl
 ·simp[dI]
theorem G_:(dI l).length=l.length:=by simp[dI]
noncomputable def hs(l:List (Str×Int))(k:Str):Bool:=(lk l k).isSome
theorem GX(h:hs l k=true):lk l k=some ((lk l k).getD 0):=by
 unfold hs at h;cases e:lk l k with
 |none=>rw[e]at h;cases h
 |some=>rfl
theorem CS{o:Addr->Option Role}(h1:o a=some r)(h2:o b=some r')(h:r≠r'):a≠b:=λe=>by subst e;rw[h1]at h2;obtain rfl:=Ak h2;exact h rfl
theorem FI(hx:o x≠none):Fr1 o H o (up H x y):=⟨λa z h k=>⟨by refine rl (Ag (λq=>by subst q;exact hx k)) ?_;exact h,k⟩,λ_ h=>Cm h⟩
theorem Fp(hx:∀r,o x=some r->¬ P r):KB P o o H (up H x y):=λa r z hp ho hz _=>⟨ho,by refine rl (Ag (λq=>by subst q;exact hx r ho hp)) ?_;exact hz⟩
def Role.isP:Role->Prop
 | .data=>True
 | .pact _=>True
 | .inside _=>True
 |_=>False
section
variable(ib:IsBook o H b f s p as B)
include ib
theorem IsBook.setFree(ep:Nat)(l:List (Str×Int)):IsBook o (up H f (.dict ep (dI l))) b f s p as {B with free:=l}:=
 ⟨ib.ob,ib.of,ib.os,ib.op,by refine rl (Ag (CS ib.ob ib.of (by intro h;trivial))) ?_;exact ib.hb,⟨ep,Ah⟩,
  by refine rl (Ag (CS ib.os ib.of (by intro h;trivial))) ?_;exact ib.hs,by refine rl (Ag (CS ib.op ib.of (by intro h;trivial))) ?_;exact ib.hp,
  ib.ps.congr (P:=Role.isP) (Fp λr h=>by rw[ib.of]at h;obtain rfl:=Ak h;exact id) trivial λ_ _=>⟨trivial,trivial⟩⟩
theorem IsBook.setAside(ep:Nat)(l:List (Str×Int)):IsBook o (up H s (.dict ep (dI l))) b f s p as {B with aside:=l}:=
 ⟨ib.ob,ib.of,ib.os,ib.op,by refine rl (Ag (CS ib.ob ib.os (by intro h;trivial))) ?_;exact ib.hb,by refine rl (Ag (CS ib.of ib.os (by intro h;trivial))) ?_;exact ib.hf,
  ⟨ep,Ah⟩,by refine rl (Ag (CS ib.op ib.os (by intro h;trivial))) ?_;exact ib.hp,
  ib.ps.congr (P:=Role.isP) (Fp λr h=>by rw[ib.os]at h;obtain rfl:=Ak h;exact id) trivial λ_ _=>⟨trivial,trivial⟩⟩
theorem IsBook.setDay(d:Int):IsBook o (up H b (.inst "Book" [("day",.int d),("free",.ref f),("aside",.ref s),("pacts",.ref p)])) b f s p as {B with day:=d}:=
 ⟨ib.ob,ib.of,ib.os,ib.op,Ah,by refine rl (Ag (CS ib.of ib.ob (by intro h;trivial))) ?_;exact ib.hf,by refine rl (Ag (CS ib.os ib.ob (by intro h;trivial))) ?_;exact ib.hs,
  by refine rl (Ag (CS ib.op ib.ob (by intro h;trivial))) ?_;exact ib.hp,
  ib.ps.congr (P:=Role.isP) (Fp λr h=>by rw[ib.ob]at h;obtain rfl:=Ak h;exact id) trivial λ_ _=>⟨trivial,trivial⟩⟩
end
noncomputable def CK(B:Bk):AV->Bool
 | .str k=>A9 k&&hs B.free k
 |_=>false
section
variable(G:Gd c P)(U:Dv P)
section
variable(ib:IsBook o H b f s p as B)
theorem EJ(hP:g.c.P.attrs=BK.attrs)(ib:IsBook o H b f s p as B)(hV:V[i]? =some (some (.ref b)))(q:Q (.ref f) H):Aj g (.attr (.var i) "free") V Q E H:=by
 exact Cp hV ib.hb ⟨rl hP rfl,q⟩
theorem GB(hP:g.c.P.attrs=BK.attrs)(ib:IsBook o H b f s p as B)(hV:V[i]? =some (some (.ref b)))(q:Q (.ref s) H):Aj g (.attr (.var i) "aside") V Q E H:=by
 exact Cp hV ib.hb ⟨rl hP rfl,q⟩
theorem EF(hP:g.c.P.attrs=BK.attrs)(ib:IsBook o H b f s p as B)(hV:V[i]? =some (some (.ref b)))(q:Q (.ref p) H):Aj g (.attr (.var i) "pacts") V Q E H:=by
 exact Cp hV ib.hb ⟨rl hP rfl,q⟩
theorem MB(hP:g.c.P.attrs=BK.attrs)(ib:IsBook o H b f s p as B)(hV:V[i]? =some (some (.ref b)))(q:Q (.int B.day) H):Aj g (.attr (.var i) "day") V Q E H:=by
 exact Cp hV ib.hb ⟨rl hP rfl,q⟩
theorem Cl(hP:g.c.P.meths=BK.meths)(hm:BK.meths.contains ("Book",m)=true)(hn:bookAttrs.contains m=false)(ib:IsBook o H b f s p as B)(hV:V[i]? =some (some (.ref b)))
  (q:Ay g xs V (λvs H=>CallOK g.c g.n g.md ("Book."++m) (.ref b::vs) Q E H) E H):Aj g (.meth (.var i) m xs) V Q E H:=by
 refine Jh hV ib.hb ⟨rl hP hm,?_,q⟩;simp only[bookAttrs,contains_cons,List.contains_nil,Bool.or_false,Bool.or_eq_false_iff,beq_eq_false_iff_ne]at hn;refine EU hn λn1 n2 n3 n4=>?_;simp[C5,n1.symm,n2.symm,n3.symm,n4.symm]
theorem Im(ib:IsBook o H b f s p as B)(h:lk B.free k=some v)(q:Q (.int v) H):A8 (.ref f) (.str k) Q H:=by
 refine e11 ib.hf λep hf=>?_;dsimp only[DL,CU,GT];exact rl hf ⟨.int v,by refine rl JP (rl h ?_);rfl,q⟩
theorem LA(ib:IsBook o H b f s p as B)(h:lk B.aside k=some v)(q:Q (.int v) H):A8 (.ref s) (.str k) Q H:=by
 refine e11 ib.hs λep hf=>?_;dsimp only[DL,CU,GT];exact rl hf ⟨.int v,by refine rl JP (rl h ?_);rfl,q⟩
theorem Qc(ib:IsBook o H b f s p as B)(q:Q (.bool (hs B.free k != no)) H):win no (.str k) (.ref f) Q H:=by
 refine e11 ib.hf λep hf=>?_;dsimp only[FF,Mn];refine rl hf ?_;dsimp only;exact rl JP (rl isSome_map (rl nt_eq.symm q))
end
include G U
theorem Lk(ib:IsBook o H b f s p as B)(hk:Kn H v)(q:if CK B v then Q .none H else E "NoPurse" H):CallOK c (n+2) true "Book.need_purse" [.ref b,v] Q E H:=by
 refine G.call (F:=BK.Zt) U.need_purse rfl ?_;have hA:c.P.attrs=BK.attrs:=by exact rl G.hP (rl U.attrs rfl)
 dsimp only[BK.Zt,ES,Aw,Aq,Ad,Av,Bo,AF,Am,Ar,Bd,Au,Bf,A_,A6,A1,Ax,Ba,AB,AN,Bg,An,Al,AT,AQ,Do,Df,CR,Dg,tv,AC,AM,B_,C7,De,Ds,BW,B7,Er,D9,Bc,Bx,Bw,Cq,AD,Ce,CF,Dd,AS,C1,Az,Eo,Eg,BG,Ci,A7,Bp,At,AP,Cz];simp;refine Lv G U hk ?_;cases hn:CE v with
 |false=>
  have:CK B v=false:=by cases v<;>first|rfl|(dsimp only[CE]at hn;simp[CK,hn])
  rw[this]at q;simpa[Aw,Aq,Ad,Av,Bo,AF,Am,Ar,Bd,Au,Bf,A_,A6,A1,Ax,Ba,AB,AN,Bg,An,Al,AT,AQ,Do,Df,CR,Dg,tv,AC,AM,B_,C7,De,Ds,BW,B7,Er,D9,Bc,Bx,Bw,Cq,AD,Ce,CF,Dd,AS,C1,Az,Eo,Eg,BG,Ci,A7,Bp,At,AP,Cz]using q
 |true=>
  cases v with
  |str k=>
   dsimp only[CE]at hn;simp[Aw,Aq,Ad,Av,Bo,AF,Am,Ar,Bd,Au,Bf,A_,A6,A1,Ax,Ba,AB,AN,Bg,An,Al,AT,AQ,Do,Df,CR,Dg,tv,AC,AM,B_,C7,De,Ds,BW,B7,Er,D9,Bc,Bx,Bw,Cq,AD,Ce,CF,Dd,AS,C1,Az,Eo,Eg];refine EJ hA ib rfl (Qc ib ?_);cases hh:hs B.free k with
   |true=>simp[CK,hn,hh,Az]at q⊢;exact q
   |false=>simp[CK,hn,hh,Az,Cz]at q⊢;exact q
  |_=>trivial
end
noncomputable def Bh:AV->Str
 | .str k=>k
 |_=>default
noncomputable def FL:AV->Int
 | .int i=>i
 |_=>0
noncomputable def Ke(B:Bk)(v:AV):Except String Bk:=
 if CE v then(if hs B.free (Bh v) then .error "Taken" else .ok {B with free:=pt B.free (Bh v) 0,aside:=pt B.aside (Bh v) 0}) else .error "NoName"
noncomputable def EO(B:Bk)(v:AV):Int:=(lk B.free (Bh v)).getD 0
noncomputable def JV(B:Bk)(v:AV):Int:=(lk B.aside (Bh v)).getD 0
noncomputable def Fu(B:Bk)(v a:AV):Except String Bk:=
 if CK B v then(if DI a then .ok {B with free:=pt B.free (Bh v) (EO B v+FL a)} else .error "NoAmount") else .error "NoPurse"
theorem Iq(h:CE v=true):v = .str (Bh v):=by cases v<;>first|rfl|cases h
theorem G4(h:CK B v=true):v = .str (Bh v)/\hs B.free (Bh v)=true:=by
 cases v with
 |str k=>simp only[CK,Bool.and_eq_true]at h;exact⟨rfl,h.2⟩
 |_=>trivial
theorem O4(h:DI v=true):v = .int (FL v):=by cases v<;>first|rfl|cases h
theorem Od(h:CK B v=true):lk B.free (Bh v)=some (EO B v):=GX (G4 h).2
def Bk.Sz(B:Bk):Prop:=B.free.length<=sizeLine/\B.aside.length<=sizeLine
def Ends(r:Except String Bk)(q:Bk->Prop)(e:String->Prop):Prop:=
 match r with
 | .ok B=>q B
 | .error cl=>e cl
section
variable{A A':Bk->Prop}{F F':String->Prop}{p:Prop}[Decidable p]{x y:Except String Bk}
theorem Ends.t(q:Ends (if p then x else y) A F)(h:p):Ends x A F:=by rw[if_pos h]at q;exact q
theorem Ends.f(q:Ends (if p then x else y) A F)(h:¬ p):Ends y A F:=by rw[if_neg h]at q;exact q
theorem Ends.gen{G:Prop}(q:Ends x A F)(k:∀A' F',(∀B,A' B->A B)->(∀e,F' e->F e)->Ends x A' F'->G):G:=k A F (λ_ h=>h) (λ_ h=>h) q
variable{α:Type}{z:Except String α}{f:α->Except String Bk}{e:String}{a:α}
theorem Ends.er(q:Ends (z.bind f) A F)(h:z = .error e):F e:=by rw[h]at q;exact q
theorem Ends.ok(q:Ends (z.bind f) A F)(h:z = .ok a):Ends (f a) A F:=by rw[h]at q;exact q
end
section
variable(G:Gd c P)(U:Dv P)
theorem Mf{i j:Nat}{k:Str}{x:Int}(hP:g.c.P.attrs=BK.attrs)(ib:IsBook o H b f s p as B)(hl:B.free.length<=sizeLine)(hV:V[i]? =some (some (.ref b)))(hj:V[j]? =some (some (.str k)))
  (q:∀H',IsBook o H' b f s p as {B with free:=pt B.free k x}->Fr1 o H o H'->QN V H'):DT g (.sub (.attr (.var i) "free") (.var j)) (.int x) V QN E H:=by
 dsimp only[AC];refine EJ hP ib hV ?_;obtain⟨ep,hf⟩:=ib.hf;dsimp only[Ad];refine rl hj ?_;dsimp only;refine rl hf ⟨by refine rl G_ ?_;exact hl,λep'=>?_⟩;exact rl GQ<|q _ (ib.setFree ep' _) (FI (by refine rl ib.of ?_;simp))
theorem Pk{i j:Nat}{k:Str}{x:Int}(hP:g.c.P.attrs=BK.attrs)(ib:IsBook o H b f s p as B)(hl:B.aside.length<=sizeLine)(hV:V[i]? =some (some (.ref b)))(hj:V[j]? =some (some (.str k)))
  (q:∀H',IsBook o H' b f s p as {B with aside:=pt B.aside k x}->Fr1 o H o H'->QN V H'):DT g (.sub (.attr (.var i) "aside") (.var j)) (.int x) V QN E H:=by
 dsimp only[AC];refine GB hP ib hV ?_;obtain⟨ep,hf⟩:=ib.hs;dsimp only[Ad];refine rl hj ?_;dsimp only;refine rl hf ⟨by refine rl G_ ?_;exact hl,λep'=>?_⟩;exact rl GQ<|q _ (ib.setAside ep' _) (FI (by refine rl ib.os ?_;simp))
include G U
theorem VO(ib:IsBook o H b f s p as B)(hk:Kn H v)(hz:B.Sz)(q:Ends (Ke B v) (λB'=>∀H',IsBook o H' b f s p as B'->Fr1 o H o H'->Q .none H') (λcl=>E cl H)):CallOK c (n+3) true "Book.open_purse" [.ref b,v] Q E H:=by
 refine G.call (F:=BK.ZC) U.open_purse rfl ?_;have hA:c.P.attrs=BK.attrs:=by exact rl G.hP (rl U.attrs rfl)
 refine Ab λK nx=>?_;dsimp only[AP,A6,Al,Ad];refine Mk G U hk<|q.gen λA F qA qF q=>?_;cases hn:CE v with
 |false=>exact qF _ (q.f (by refine rl hn ?_;decide))
 |true=>
  obtain⟨k,rfl⟩:∃k,v = .str k:=⟨_,Iq hn⟩
  replace q:=q.t hn;refine nx _ _<|Ab λK nx=>?_;dsimp only[A7,Ar,Ad];refine EJ hA ib rfl ?_;dsimp only[AS];refine Qc ib ?_;cases hh:hs B.free k with
  |true=>exact⟨rfl,qF _ (q.t hh)⟩
  |false=>
   replace q:=q.f λh=>Bool.false_ne_true (hh.symm.trans h);refine nx _ _<|Ab λK nx=>?_;dsimp only[At,Aq];refine Mf (k:=k) hA ib hz.1 rfl rfl λH1 ib1 f1=>nx _ _<|Ab λK nx=>?_;dsimp only[At,Aq];exact Pk (k:=k) hA ib1 hz.2 rfl rfl λH2 ib2 f2=>nx _ _ (qA _ q H2 ib2 (f1.trans f2))
theorem W9(hput:P.fns.lookup "Book.put"=some BK.Zn)(ib:IsBook o H b f s p as B)(hk:Kn H v)(hka:Kn H a)(hz:B.Sz)(q:Ends (Fu B v a) (λB'=>∀H',IsBook o H' b f s p as B'->Fr1 o H o H'->Q .none H') (λcl=>E cl H)):CallOK c (n+3) true "Book.put" [.ref b,v,a] Q E H:=by
 refine G.call (F:=BK.Zn) hput rfl ?_;have hA:c.P.attrs=BK.attrs:=by exact rl G.hP (rl U.attrs rfl)
 have hM:c.P.meths=BK.meths:=by exact rl G.hP (rl U.meths rfl)
 refine Ab λK nx=>?_;dsimp only[AP];refine Cl hM (by decide) (by decide) ib rfl<|Lk G U ib hk<|q.gen λA F qA qF q=>?_;cases hp:CK B v with
 |false=>exact qF _ (q.f (by refine rl hp ?_;decide))
 |true=>
  have hf:=Od hp;obtain⟨k,rfl⟩:∃k,v = .str k:=⟨_,(G4 hp).1⟩
  replace q:=q.t hp;refine nx _ _<|Ab λK nx=>?_;dsimp only[At,Av,Au];refine EJ hA ib rfl<|Im ib hf<|Pj G U hka ?_;cases ha:DI a with
  |false=>exact qF _ (q.f (by refine rl ha ?_;decide))
  |true=>
   obtain⟨i,rfl⟩:∃i,a = .int i:=⟨_,O4 ha⟩
   replace q:=q.t ha;exact rl (if_pos rfl) (rl C7 (Mf (k:=k) hA ib hz.1 rfl rfl λH1 ib1 f1=>nx _ _ (qA _ q H1 ib1 f1)))
end
theorem DP(h:up H a o b=none):a≠b:=λe=>by subst e;rw[Ah]at h;trivial
theorem B9{g:Gx}{V:VV}{K}(hV:V[i]? =some (some (.ref a)))(hP:g.c.P.attrs.contains (cl,n)=true)(h:H a=some (.inst cl es))(hl:es.length<=100)(q:K V (up H a (.inst cl (Cv es n x)))):DT g (.attr (.var i) n) x V K E H:=by
 (dsimp only[AM,Ad];refine rl hV ?_)
 show match H a with|some (.inst cl es)=>_|_=>False
 exact rl h ⟨hP,hl,q⟩
theorem DB(h:H a=some x):up H a x=H:=by
 funext b
 by_cases e:b=a
 ·subst e;exact rl Ah (rl h rfl)
 ·exact rl (Ag e) rfl
section
variable(G:Gd c P)(U:Dv P){Q:AV->Ac->Prop}{E:String->Ac->Prop}{H:Ac}
theorem Kn.open{H₂:Ac}{v:AV}{o:Addr->Option Role}(hb:H b=some (.book B))(hold:∀a x,H a=some x->a≠b->H₂ a=some x/\o a=none)(k:Kn H v):Kn H₂ v:=by
 obtain⟨⟨t,ht⟩,hl⟩:=k;refine⟨⟨t,?_⟩,hl⟩;cases v with
 |ref a=>
  unfold DA at ht⊢;dsimp only at ht⊢;cases e:H a with
  |none=>rw[e]at ht;cases ht
  |some x=>
   have:a≠b:=λq=>by subst q;rw[hb]at e;cases e;rw[hb]at ht;cases ht
   refine rl ((hold a x e this).1) ?_;rw[e]at ht;exact ht
 |_=>exact ht
theorem IsBook.fresh(ib:IsBook o H₂ b f s p as B)(hz:H₂ z=none)(y:AObj):IsBook (λa=>if a=z then none else o a) (up H₂ z y) b f s p as B/\Fr1 o H₂ (λa=>if a=z then none else o a) (up H₂ z y):=
 ⟨ib.congr λa r x _ ho hx _=>by
   have:a≠z:=λq=>by subst q;rw[hz]at hx;trivial
   exact⟨by simp only[this,if_false];exact ho,by exact rl (Ag this) hx⟩,
  ⟨λa x h k=>by
   have:a≠z:=λq=>by subst q;rw[hz]at h;trivial
   exact⟨by refine rl (Ag this) ?_;exact h,by simp only[this,if_false];exact k⟩,λ_ h=>Cm h⟩⟩
include G U
theorem Yq{v:AV}(hb:H b=some (.book B))(hk:Kn H v)(hz:B.Sz)(q:Ends (Ke B v) (λB'=>Q .none (up H b (.book B'))) (λcl=>E cl H)):CallOK c (n+3) true "Book.open_purse" [.ref b,v] Q E H:=by
 refine D_ hb λH₂ o f s p as ib hold=>VO G U ib (hk.open hb hold) hz ?_;revert q;cases Ke B v with
 |ok B'=>exact λq H' ib' fr=>⟨o,f,s,p,as,B',ib',fr,.inl ⟨(λ_ h=>by trivial),q⟩⟩
 |error cl=>exact λq=>⟨o,f,s,p,as,B,ib,.refl,by refine rl (DB hb) ?_;exact q⟩
theorem SD{v a:AV}(hput:P.fns.lookup "Book.put"=some BK.Zn)(hb:H b=some (.book B))(hk:Kn H v)(hka:Kn H a)(hz:B.Sz)(q:Ends (Fu B v a) (λB'=>Q .none (up H b (.book B'))) (λcl=>E cl H)):CallOK c (n+3) true "Book.put" [.ref b,v,a] Q E H:=by
 refine D_ hb λH₂ o f s p as ib hold=>W9 G U hput ib (hk.open hb hold) (hka.open hb hold) hz ?_;revert q;cases Fu B v a with
 |ok B'=>exact λq H' ib' fr=>⟨o,f,s,p,as,B',ib',fr,.inl ⟨(λ_ h=>by trivial),q⟩⟩
 |error cl=>exact λq=>⟨o,f,s,p,as,B,ib,.refl,by refine rl (DB hb) ?_;exact q⟩
theorem Gg(hb:H b=some (.book B))(ib:IsBook o H₂ b f s p as B)(hold:∀a x,H a=some x->a≠b->H₂ a=some x/\o a=none)(hz:H₂ z=none):H z=none:=by
 cases e:H z with
 |none=>rfl
 |some x=>
  by_cases q:z=b
  ·subst q;rw[ib.hb]at hz;trivial
  ·rw[(hold z x e q).1]at hz;trivial
omit G U in
theorem P1{g:Gx}{V:VV}(hP:g.c=c)(G:Gd g.c P)(U:Dv P)(hn:∃m,g.n=m+1)(q:∀a,H a=none->Q (.ref a) (up H a (.book ⟨0,[],[],[]⟩))):Aj g (.new "Book" []) V Q E H:=by
 refine e11 hn λm hm=>?_
 (dsimp only[BP,An];refine rl hm ?_)
 intro a ha;refine CallOK.post (Q:=λr H'=>r = .none/\∃o f s p,IsBook o H' a f s p [] ⟨0,[],[],[]⟩/\∀x y,x≠a->H x=some y->H' x=some y/\o x=none) (E:=λ_ _=>False) ?_ (λr H' h=>?_) (λ_ _ h=>h.elim)
 ·refine G.call (F:=BK.Z9) U.init rfl ?_;have hA:g.c.P.attrs=BK.attrs:=by exact rl G.hP (rl U.attrs rfl)
  have hC:∀n,BK.attrs.contains ("Book",n)=true->g.c.P.attrs.contains ("Book",n)=true:=λn h=>by refine rl hA ?_;exact h
  refine Ab λK nx=>?_;dsimp only[At,Aq];refine B9 rfl (hC _ rfl) Ah (by decide) (nx _ _ (Ab λK nx=>?_));intro f hf;have fa:a≠f:=DP hf;refine B9 rfl (hC _ rfl) (by exact rl (Ag fa) (rl Ah rfl)) (by decide) (nx _ _ (Ab λK nx=>?_));intro s hs;have sa:a≠s:=DP hs;have sf:f≠s:=DP (by rw[Ag sa.symm]at hs;exact hs);refine B9 rfl (hC _ rfl) (by exact rl (Ag sa) (rl Ah rfl)) (by exact(show 2<=100 by decide)) (nx _ _ (Ab λK nx=>?_));intro p hp;have pa:a≠p:=DP hp;have ps:s≠p:=DP (by rw[Ag pa.symm]at hp;exact hp);have pf:f≠p:=DP (by rw[Ag pa.symm,Ag ps.symm,Ag pa.symm]at hp;exact hp);refine B9 rfl (hC _ rfl) (by exact rl (Ag pa) (rl Ah rfl)) (by exact(show 3<=100 by decide)) (nx _ _ ⟨rfl,λx=>if x=a then some .self else if x=f then some .free else if x=s then some .aside else if x=p then some .pacts else none,f,s,p,⟨by simp,by simp[fa.symm],by simp[sa.symm,sf.symm],by simp[pa.symm,pf.symm,ps.symm],Ah,⟨0,?_⟩,⟨0,?_⟩,⟨0,?_⟩,trivial⟩,λx y hx hy=>?_⟩)
  ·refine rl (Ag fa.symm) (rl (Ag pf) (rl (Ag fa.symm) (rl (Ag sf) (rl (Ag fa.symm) (rl Ah ?_)))));rfl
  ·refine rl (Ag sa.symm) (rl (Ag ps) (rl (Ag sa.symm) (rl Ah ?_)));rfl
  ·refine rl (Ag pa.symm) (rl Ah ?_);rfl
  ·have xf:x≠f:=λe=>by subst e;rw[Ag hx,Ag hx,hy]at hf;trivial
   have xs:x≠s:=λe=>by subst e;rw[Ag hx,Ag xf,Ag hx,Ag hx,hy]at hs;trivial
   have xp:x≠p:=λe=>by subst e;rw[Ag hx,Ag xs,Ag hx,Ag xf,Ag hx,Ag hx,hy]at hp;trivial
   exact⟨by exact rl (Ag hx) (rl (Ag xp) (rl (Ag hx) (rl (Ag xs) (rl (Ag hx) (rl (Ag xf) (rl (Ag hx) (rl (Ag hx) (rl hy rfl)))))))),by simp[hx,xf,xs,xp]⟩
 ·obtain⟨rfl,o,f,s,p,ib,hold⟩:=h;refine⟨_,λH₁ r=>r.pack ib λx y e=>?_,rfl,q a ha⟩;by_cases w:x=a
  ·subst w;rw[Ah]at e;obtain rfl:=Ak e;exact .inl ⟨rfl,rfl⟩
  ·rw[Ag w]at e;exact .inr ⟨w,(hold x y w e).2,(hold x y w e).1⟩
end
noncomputable def cell(ns:List Int)(k:Nat):Int:=(ns[k]?).getD 0
theorem GL(G:Gd c P)(hf:P.fns.lookup "_law_cell_at"=some BK.Z1)(hk:0<=k)(hs:H sp=some (.script ns))(hl:ns.length<2 ^ 62)
  (q:Q (.int (cell ns k.toNat)) H):CallOK c (n+1) md "_law_cell_at" [.ref sp,.int k] Q E H:=by
 refine G.call (F:=BK.Z1) hf rfl ?_;show Af _ _ _ _ _ [some (.ref sp),some (.int k)] _;refine e11 (Int.eq_ofNat_of_zero_le hk) λj z01=>?_;obtain rfl:=z01;refine Ab λK nx=>?_;dsimp only[A7,BG,Ci,Bp,Au,Ad,getElem?_cons_succ,Aw,Ar,A1,Al,An,Fj,Nat.reducePow,Bc,Az,ofNat_lt,decide_eq_true_eq];refine rl hs ⟨hl,?_⟩;by_cases h:j<ns.length
 ·refine rl (decide_eq_true (ofNat_lt.mpr h)) ?_;show A8 (.ref sp) (.int j) Q H;dsimp only[DL,CU,GT];exact rl hs ⟨hk,by lia,ns[j],getElem?_eq_getElem h,by rw[show cell ns (j:Int).toNat=ns[j] from by unfold cell;rw[toNat_natCast,getElem?_eq_getElem h];rfl]at q;exact q⟩
 ·refine rl (decide_eq_false λz=>h (ofNat_lt.mp z))<|nx _ _ ?_;rw[show cell ns (j:Int).toNat=0 from by unfold cell;rw[toNat_natCast,getElem?_eq_none (Nat.le_of_not_lt h)];rfl]at q;exact q
theorem BD{x m:Int}(h:0<m):0<=x.fmod m:=by refine rl (fmod_eq_emod_of_nonneg _ (Int.le_of_lt h)) ?_;exact Int.emod_nonneg _ (by omega)
theorem BV{x m:Int}(h:0<m):x.fmod m<m:=by refine rl (fmod_eq_emod_of_nonneg _ (Int.le_of_lt h)) ?_;exact Int.emod_lt_of_pos _ h
theorem CW(h:H b=some o')(k:H a=none):up H a o b=some o':=by
 refine rl (Ag (λz=>by rw[z,k]at h;trivial)) ?_;exact h
def Ext(H H':Ac):Prop:=∀a o,H a=some o->H' a=some o
theorem Ext.refl:Ext H H:=λ_ _ h=>h
theorem Ext.trans(x:Ext H H')(y:Ext H' H''):Ext H H'':=λa o h=>y a o (x a o h)
theorem Ext.none(x:Ext H H')(h:H' z=none):H z=none:=by
 cases q:H z with
 |none=>rfl
 |some o=>rw[x z o q]at h;trivial
theorem Ext.own(x:Ext H H')(h:H z=Option.none):Ext H (up H' z o):=λa o' e=>by
 refine rl (Ag (λq=>by rw[q,h]at e;trivial)) ?_;exact x a o' e
theorem Ext.new(x:Ext H H')(h:H' z=Option.none):Ext H (up H' z o):=x.own (x.none h)
theorem Cd{H:Ac}(h:H a=some o)(k:H b=none):a≠b:=λq=>by rw[q,k]at h;trivial
noncomputable def Ae(l:List Str):List AV:=l.map AV.str
theorem AO:(Ae l).length=l.length:=by simp[Ae]
theorem Ff{l:List Str}{k:Nat}(h:(Ae l)[k]? =some x):∃s,x = .str s/\l[k]? =some s:=by
 unfold Ae at h;rw[getElem?_map,map_eq_some_iff]at h;exact e12 h λs h1 h2=>⟨s,h2.symm,h1⟩
theorem txs_snoc:Ae l++[.str s]=Ae (l++[s]):=by simp[Ae]
theorem B0{α:Type}{l:List α}{k:Nat}{x}(h:l[k]? =some x):l.take (k+1)=l.take k++[x]:=by
 refine rl take_add_one (rl h ?_);rfl
theorem I6:∀{l:List Str},DX H (Ae l) (l.map PyData.str)
 |[]=>.nil
 |s::r=>.cons (.str s) I6
theorem JE:∀{l:List Str},Dr (l.map PyData.str)=true
 |[]=>rfl
 |s::r=>JE (l:=r)
theorem LH:∀{l:List Str},PyData.depthAll (l.map PyData.str)=0
 |[]=>rfl
 |s::r=>by simp[PyData.depthAll,PyData.depth,LH (l:=r)]
theorem Qz{l:List Str}:Ex (.list (l.map PyData.str)):=⟨JE,by simp[PyData.depth,LH]⟩
theorem XQ:Ex (.str s):=⟨rfl,zero_le _⟩
theorem Qr:∀{l l':List Str},PyData.eqvAll (l.map PyData.str) (l'.map PyData.str)=decide (l=l')
 |[],[]=>rfl
 |[],_::_=>rfl
 |_::_,[]=>rfl
 |s::r,s'::r'=>by
  simp only[map_cons,SU,Nx,Qr (l:=r) (l':=r'),List.cons.injEq];by_cases h:s=s'<;>simp[h]
theorem XM{l:List Str}:((l.map PyData.str).any λy=>PyData.eqv y (.str s))=decide (s∈l):=by
 induction l with
 |nil=>rfl
 |cons t r ih=>
  simp only[map_cons,any_cons,ih,Nx,mem_cons];by_cases h:s=t
  ·simp[h]
  ·have:t≠s:=λz=>h z.symm;simp[h,this]
theorem GF{no}(h:H a=some (.list (Ae l)))(q:Q (.bool (decide (x∈l) != no)) H):win no (.str x) (.ref a) Q H:=by
 dsimp only[FF,Mn];refine rl h ⟨.str x,l.map PyData.str,.str x,I6,XQ,JE,?_⟩;refine rl XM (rl nt_eq.symm ?_);exact q
theorem Ik(h:H a=some (.dict ep es))(q:Q (.bool ((Bb es x).isSome != no)) H):win no (.str x) (.ref a) Q H:=by
 dsimp only[FF,Mn];refine rl h ?_;dsimp only;exact rl nt_eq.symm q
theorem Ga(h:H a=some (.list (Ae l)))(h':H b=some (.list (Ae l')))(q:Q (.bool (decide (l=l') != ne)) H):FT ne (.ref a) (.ref b) Q H:=by
 exact⟨.list (l.map PyData.str),.list (l'.map PyData.str),.list h I6,.list h' I6,Qz,Qz,rl SS (rl Qr (rl nt_eq.symm q))⟩
theorem NC:AA .Eq u v Q H=FT false u v Q H:=rfl
theorem Gp:AA .NotEq u v Q H=FT true u v Q H:=rfl
theorem El(h:H a=some (.list xs))(hl:xs.length<=100000)(q:Q (.int xs.length) H):BS md .len [.ref a] Q H:=by
 dsimp only[JW,JO,LU,Ka,Fj,Gc,IC];exact rl h ⟨lt_of_le_of_lt hl (by decide),q⟩
theorem Mx(h:H a=some (.list xs))(hl:xs.length<=100000)(q:∀z,H z=none->Q (.ref z) (up H z (.list xs))):BS md .list [.ref a] Q H:=by
 dsimp only[JW,JO,LU,Ka,Fj,Gc,IC];exact rl h ⟨by simp[sizeLine];exact le_trans hl (by decide),q⟩
theorem JJ{a:Addr}{l:List Str}{k:Nat}(h:H a=some (.list (Ae l)))(hk:l[k]? =some s)(hl:l.length<=1000)(q:Q (.str s) H):A8 (.ref a) (.int k) Q H:=by
 have hlt:k<l.length:=(AJ hk).1;dsimp only[DL,CU,GT];refine rl h ⟨k,.str s,by simp[Dj,hlt,AO],FV hlt hl,EY,by simp[Ae,hk],q⟩
theorem Vy{a:Addr}{l:List Str}{i:Int}(h:H a=some (.list (Ae l)))(h0:0<=i)(h1:i<l.length)(hl:l.length<=1000)(q:∀s∈l,Q (.str s) H):A8 (.ref a) (.int i) Q H:=by
 have hlt:i.toNat<l.length:=KT h0 h1
 have e:i=((i.toNat:Nat):Int):=HD h0
 exact rl e (JJ h (getElem?_eq_getElem hlt) hl (q _ (List.getElem_mem hlt)))
theorem JX(h:H a=some (.list (Ae l)))(hl:l.length<=1000)(q:Q (.int l.length) H):BS md .len [.ref a] Q H:=
 El h (rl AO (le_trans hl (by decide))) (rl AO q)
theorem GI(h:H a=some (.list (Ae l)))(hl:l.length<=1000)(q:∀z,H z=none->Q (.ref z) (up H z (.list (Ae l)))):BS md .list [.ref a] Q H:=
 Mx h (rl AO (le_trans hl (by decide))) q
theorem DJ(h:H p=some (.list xs))(hl:xs.length<=100000)(q:Q .none (up H p (.list (xs++[v])))):FS (.ref p) .append [v] Q H:=by
 dsimp only[SM,N1];exact rl h ⟨by simp[sizeLine];exact le_trans hl (by decide),q⟩
theorem Sr:A4 g (.for t it b) QN QR E V H=(g.md=true/\Aj g it V (λv H=>Bq QN (λx nx V H=>B_ t x V H λV=>Af g b nx QR E V H) v V H) (λcl H=>E cl V H) H):=rfl
theorem CD(hx:B6 H v=some xs)(J:Nat->VV->Ac->Prop)(h0:J 0 V H)
  (hs:∀I:Nat->VV->Ac->Prop,(∀k V' H',J k V' H'->I k V' H')->∀k V' H',J k V' H'->DM H H' v/\(k=xs.length->QN V' H')/\∀x,xs[k]? =some x->stp x (I (k+1)) V' H'):Bq QN stp v V H:=
 Jn hx J h0 (hs J λ_ _ _ h=>h)
theorem Ib{Q:AV->Ac->Prop}{stp:AV->(Option AV->Ac->Prop)->Ac->Prop}{v:AV}{H}{xs}(hx:B6 H v=some xs)(hl:xs.length<=sizeLine)(f:AV->Option AV)
  (hs:∀x∈xs,∀H',Ext H H'->∀nx:Option AV->Ac->Prop,(∀H'',Ext H' H''->nx (f x) H'')->stp x nx H')
  (q:∀a H',Ext H H'->H' a=none->Q (.ref a) (up H' a (.list (xs.filterMap f)))):Kj Q stp v H:=by
 refine⟨xs,hx,hl,λk acc H'=>Ext H H'/\acc=(xs.take k).filterMap f,⟨.refl,by simp⟩,?_⟩;rintro k acc H' ⟨hE,rfl⟩;refine⟨?_,λhk a ha=>?_,λx hxk=>?_⟩
 ·cases v with
  |ref a=>
   dsimp only[B6]at hx;dsimp only[DM];cases q:H a with
   |none=>rw[q]at hx;cases hx
   |some o=>exact hE a o q
  |_=>trivial
 ·have:=q a H' hE ha;refine rl hk (rl take_length ?_);exact this
 ·refine hs x (mem_of_getElem? hxk) H' hE _ λH'' hE'=>⟨hE.trans hE',rl (B0 hxk) (rl List.filterMap_append ?_)⟩
  cases hf:f x<;>simp[hf]
section
variable(G:Gd c P)
noncomputable def AL(a b:Int):Int:=(a*6364136223846793005+b*1442695040888963407+1013904223).fmod 2305843009213693951
include G in
theorem Ii(hf:P.fns.lookup "_law_mixed"=some BK.Zj)(q:Q (.int (AL a b)) H):CallOK c (n+1) md "_law_mixed" [.int a,.int b] Q E H:=by
 refine G.call (F:=BK.Zj) hf rfl ?_;simp[BK.Zj,ES,Aw,Aq,Ad,Av,Bo,AF,Am,Ar,Bd,Au,Bf,A_,A6,A1,Ax,Ba,AB,AN,Bg,An,Al,AT,AQ,Do,Df,CR,Dg,tv,AC,AM,B_,C7,De,Ds,BW,B7,Er,D9,Bc,Bx,Bw,Cq,AD,Ce,CF,Dd,AS,C1,Az,Eo,Eg,BG,Ci,A7,Bp,At,AP,Cz];exact⟨IntMulOk.of_right (by decide +kernel),IntMulOk.of_right (by decide +kernel),q⟩
end
noncomputable def LP:List S:=[
 .assign (.var 5) (.lit (.str (ofString ""))),
 .for (.var 6) (.prim .range [(.bin .Mod (.bin .FloorDiv (.var 4) (.lit (.int 12))) (.lit (.int 11)))]) [.assign (.var 5) (.bin .Add (.var 5) (.sub (.var 2) (.bin .Mod (.bin .FloorDiv (.var 4) (.lit (.int 300))) (.lit (.int 26))))),
  .assign (.var 4) (.bin .FloorDiv (.var 4) (.lit (.int 26)))],
 .ite (.cmp .Eq (.bin .Mod (.var 1) (.lit (.int 2))) (.lit (.int 1))) [.ret (.bin .Add (.var 3) (.var 5))] [],
 .assign (.var 7) (.bin .Mod (.bin .FloorDiv (.var 1) (.lit (.int 2))) (.bin .Add (.prim .len [(.var 5)]) (.lit (.int 1)))),
 .ret (.bin .Add (.bin .Add (.slice (.var 5) none (some (.var 7)) none) (.var 3)) (.slice (.var 5) (some (.var 7)) none none))]
noncomputable def JY(nm:String):Fn:=⟨2,["_law_k","_law_cell","_law_letters",nm,"_law_rest","_law_more","_law_j","_law_at"],
 .assign (.var 2) (.lit (.str (ofString "abcdefghijklmnopqrstuvwxyz"))) ::
 .assign (.var 3) (.bin .Add (.sub (.var 2) (.bin .Mod (.bin .FloorDiv (.var 0) (.lit (.int 26))) (.lit (.int 26)))) (.sub (.var 2) (.bin .Mod (.var 0) (.lit (.int 26))))) ::
 .assign (.var 4) (.call "_law_mixed" [(.var 1),(.lit (.int 0))]) ::
 .ite (.cmp .Eq (.bin .Mod (.var 1) (.lit (.int 2))) (.lit (.int 1))) [.assign (.var 4) (.call "_law_mixed" [(.var 1),(.var 0)]),
  .ite (.ao true [(.cmp .Eq (.bin .Mod (.var 4) (.lit (.int 12))) (.lit (.int 11))),(.cmp .Lt (.var 0) (.lit (.int 26)))]) [.ret (.sub (.var 2) (.var 0))] []] [] ::
 LP⟩
noncomputable def CH(i:Int):Nat:=(letters.cps[i.toNat]?).getD 0
noncomputable def Cn(k:Int):List Nat:=[CH ((k.fdiv 26).fmod 26),CH (k.fmod 26)]
noncomputable def CG(r:Int):Nat->List Nat×Int
 | 0=>([],r)
 |j+1=>((CG r j).1++[CH (((CG r j).2.fdiv 300).fmod 26)],(CG r j).2.fdiv 26)
theorem Jy(r:Int):∀j,(CG r j).1.length=j
 | 0=>rfl
 |j+1=>by show(_++[_]).length=_;rw[length_append,Jy r j];rfl
noncomputable def CM(k cl:Int):List Nat:=
 if cl.fmod 2=1 then
  let r:=AL cl k
  if r.fmod 12=11/\k<26 then[CH k] else Cn k++(CG r ((r.fdiv 12).fmod 11).toNat).1
 else
  let r:=AL cl 0
  let m:=(CG r ((r.fdiv 12).fmod 11).toNat).1
  let a:=((cl.fdiv 2).fmod (m.length+1)).toNat
  m.take a++Cn k++m.drop a
noncomputable def BL(k cl:Int):Str:=⟨(CM k cl).toArray⟩
theorem NQ:letters.cps.size=26:=by decide +kernel
theorem JK(h0:0<=i)(h1:i<26)(q:Q (.str ⟨#[CH i]⟩) H):A8 (.str letters) (.int i) Q H:=by
 have hlt:i.toNat<letters.cps.size:=by refine rl NQ ?_;exact Jp h1
 refine⟨h0,Int.lt_of_lt_of_le h1 (by decide),letters.cps[i.toNat],by simp[hlt],?_⟩;have:CH i=letters.cps[i.toNat]:=by simp[CH,hlt]
 exact rl this.symm q
theorem Iy{a b:List Nat}:(⟨a.toArray⟩++⟨b.toArray⟩:Str)=⟨(a++b).toArray⟩:=by
 show Str.mk _=Str.mk _;simp
theorem str_len{a:List Nat}:(⟨a.toArray⟩:Str).length=a.length:=by show a.toArray.size=_;simp
section
variable(G:Gd c P)
theorem VW{r:Int}{w:Nat}(hw:w<=10)(hz:H z=some (.range 0 w))
  (hV:V=[x0,x1,some (.str letters),x3,some (.int r),some (.str (ofString "")),none,x7])
  (q:∀a b,QN [x0,x1,some (.str letters),x3,some (.int a),some (.str ⟨(CG r w).1.toArray⟩),b,x7] H) :
  Bq QN (λx nx V H=>B_ (.var 6) x V H λV=>Af ⟨c,n,true⟩ [.assign (.var 5) (.bin .Add (.var 5) (.sub (.var 2) (.bin .Mod (.bin .FloorDiv (.var 4) (.lit (.int 300))) (.lit (.int 26))))),
   .assign (.var 4) (.bin .FloorDiv (.var 4) (.lit (.int 26)))] nx QR EE V H) (.ref z) V H:=by
 subst hV;have hlen:(((w:Int) - 0).toNat)=w:=Nat.add_zero ..
 refine CD (xs:=(List.range ((w:Int) - 0).toNat).map λ(k:Nat)=>AV.int (0+k)) (I0 hz) (λk V' H'=>H'=H/\∃b,V'=[x0,x1,some (.str letters),x3,some (.int (CG r k).2),some (.str ⟨(CG r k).1.toArray⟩),b,x7]) ⟨rfl,none,rfl⟩ ?_;rintro I hI k V' H' ⟨rfl,b,rfl⟩;refine⟨rfl,λhk=>?_,λy hy=>?_⟩
 ·simp at hk;subst hk;exact q _ _
 ·have hk:k<w:=by
   have:=(AJ hy).1;simpa using this
  dsimp only[BG,Ci,At,tv,Av,Aq,Ad,Au,B_,length_cons,length_nil,Nat.reduceAdd,set_cons_succ,set_cons_zero,getElem?_cons_succ,Aw,BW,ne_eq,B7];simp[Aw,Aq,Ad,Av,Bo,AF,Am,Ar,Bd,Au,Bf,A_,A6,A1,Ax,Ba,AB,AN,Bg,An,Al,AT,AQ,Do,Df,CR,Dg,tv,AC,AM,B_,C7,De,Ds,BW,B7,Er,D9,Bc,Bx,Bw,Cq,AD,Ce,CF,Dd,AS,C1,Az,Eo,Eg,BG,Ci,A7,Bp,At,AP,Cz];refine JK (BD ((by decide))) (BV ((by decide))) ?_;simp[Aw,Aq,Ad,Av,Bo,AF,Am,Ar,Bd,Au,Bf,A_,A6,A1,Ax,Ba,AB,AN,Bg,An,Al,AT,AQ,Do,Df,CR,Dg,tv,AC,AM,B_,C7,De,Ds,BW,B7,Er,D9,Bc,Bx,Bw,Cq,AD,Ce,CF,Dd,AS,C1,Az,Eo,Eg,BG,Ci,A7,Bp,At,AP,Cz];refine⟨?_,?_⟩
  ·have:=Jy r k;show(CG r k).1.toArray.size+1<=sizeLine;simp[this,sizeLine];exact DV hk hw (by decide)
  ·exact hI _ _ _ ⟨rfl,some y,congrArg (λz=>[x0,x1,some (.str letters),x3,some (.int ((CG r k).2.fdiv 26)),some (.str z),some y,x7]) Iy⟩
theorem L7{k cl r:Int}{EE:String->VV->Ac->Prop}(q:∀H',Ext H H'->Q (.str (if cl.fmod 2=1 then⟨(Cn k++(CG r ((r.fdiv 12).fmod 11).toNat).1).toArray⟩ else
   ⟨((CG r ((r.fdiv 12).fmod 11).toNat).1.take ((cl.fdiv 2).fmod ((CG r ((r.fdiv 12).fmod 11).toNat).1.length+1)).toNat++Cn k++(CG r ((r.fdiv 12).fmod 11).toNat).1.drop ((cl.fdiv 2).fmod ((CG r ((r.fdiv 12).fmod 11).toNat).1.length+1)).toNat).toArray⟩)) H') :
  Af ⟨c,n,true⟩ LP QN Q EE [some (.int k),some (.int cl),some (.str letters),some (.str ⟨(Cn k).toArray⟩),some (.int r),none,none,none] H:=by
 have h0:0<=(r.fdiv 12).fmod 11:=BD (by decide);have h1:(r.fdiv 12).fmod 11<11:=BV (by decide);obtain⟨w,hw⟩:∃w:Nat,(r.fdiv 12).fmod 11=w:=⟨((r.fdiv 12).fmod 11).toNat,(toNat_of_nonneg h0).symm⟩
 have hw10:w<=10:=Nat.le_of_lt_succ (ofNat_lt.mp (hw▸h1));rw[hw]at q;rw[toNat_natCast]at q;show Af _ [_,_,_,_,_] _ _ _ _ _;refine Ab λK nx=>?_;dsimp only[At,Aq,tv];refine⟨(by decide:5<8),nx _ _ (Ab λK nx=>?_)⟩;dsimp only[Sr];refine⟨rfl,?_⟩;dsimp only[A1,set_cons_succ,set_cons_zero,B_,Al,An,Av,Aq,Ad,getElem?_cons_succ,Aw,BW,ne_eq,B7];refine⟨by decide,by decide,?_⟩;refine rl hw (rl JO ⟨⟨KP,KR hw10⟩,λz hz=>?_⟩);have q':=q _ (Ext.refl.new (o:=.range 0 w) hz);refine VW (r:=r) (w:=w) hw10 Ah rfl λa b=>nx _ _ ?_;have hml:=Jy r w;generalize(CG r w).1=m at q' hml⊢;generalize up H z (.range 0 w)=H1 at q'⊢;have hsl:∀x:Nat,x<=100->x<=sizeLine:=λx h=>le_trans h (by decide);refine Ab λK nx=>?_;dsimp only[A7];dsimp only[Ar,Aq,Av,Ad,getElem?_cons_succ,Aw,B7,ne_eq,AD,Az,beq_iff_eq];refine⟨by decide,?_⟩;by_cases hc:cl.fmod 2=1
 ·rw[if_pos hc]at q';refine rl (if_pos (beq_iff_eq.mpr hc)) ?_;dsimp only[BG,Ci,Bp,Av,Ad,getElem?_cons_succ,Aw,D9];exact rl Iy (rl str_len (rl str_len (rl hml ⟨hsl _ (le_trans (Nat.add_le_add_left hw10 2) (by decide)),q'⟩)))
 ·rw[if_neg hc]at q';refine rl (if_neg (λe=>hc (beq_iff_eq.mp e)))<|nx _ _<|Ab λK nx=>?_;dsimp only[At,tv,length_cons,length_nil,Nat.reduceAdd,set_cons_succ,set_cons_zero,Av,Aq,A1,Al,An,Ad,getElem?_cons_succ,Aw,BW,ne_eq];refine rl JW (rl str_len (rl hml ?_));rw[hml]at q';have ha0:0<=(cl.fdiv 2).fmod ((w:Int)+1):=BD (FU (by decide));have ha1:(cl.fdiv 2).fmod ((w:Int)+1)<(w:Int)+1:=BV (FU (by decide));refine⟨by decide,lt_of_le_of_lt hw10 (by decide),HI (by decide),by decide,nx _ _ ?_⟩;generalize(cl.fdiv 2).fmod ((w:Int)+1)=a' at q' ha0 ha1;have hs:Str.length ⟨m.toArray⟩=w:=str_len.trans hml;have t:a'.toNat<=w:=Int.toNat_le.mpr (Int.le_of_lt_add_one ha1);have t2:a'.toNat+2<=12:=Nat.add_le_add_right (le_trans t hw10) 2;have e1:min a'.toNat w=a'.toNat:=min_eq_left t;have l1:a'<=Str.length ⟨m.toArray⟩:=hs▸Int.le_of_lt_add_one ha1;have l2:Str.length ⟨m.toArray⟩<=sizeLine:=hs▸hsl _ (le_trans hw10 (by decide));have g1:Str.length ⟨(m.take a'.toNat).toArray⟩=a'.toNat:=by exact rl str_len (rl length_take (rl hml e1))
  have g2:Str.length ⟨(m.drop a'.toNat).toArray⟩=w - a'.toNat:=by exact rl str_len (rl length_drop (rl hml rfl))
  have g3:Str.length (⟨(m.take a'.toNat).toArray⟩++⟨(Cn k).toArray⟩)=a'.toNat+2:=by refine rl Iy (rl str_len (rl length_append (rl length_take (rl hml (rl e1 ?_)))));rfl
  refine⟨ha0,l1,l2,(?_:Str.length ⟨(m.take a'.toNat).toArray⟩ + Str.length ⟨(Cn k).toArray⟩<=_),ha0,l1,l2,(?_:Str.length (⟨(m.take a'.toNat).toArray⟩++⟨(Cn k).toArray⟩)+Str.length ⟨(m.drop a'.toNat).toArray⟩<=_),?_⟩
  ·exact rl g1 (hsl _ (le_trans t2 (by decide)))
  ·exact rl g2 (rl g3 (hsl _ (le_trans (add_le_add t2 (le_trans (Nat.sub_le _ _) hw10)) (by decide))))
  ·show Q (.str (⟨(m.take a'.toNat).toArray⟩++⟨(Cn k).toArray⟩++⟨(m.drop a'.toNat).toArray⟩)) _;rw[Iy,Iy];exact q'
include G in
theorem WC{nm:String}(h1:P.fns.lookup "_law_word"=some (JY nm))(h2:P.fns.lookup "_law_mixed"=some BK.Zj)(hk:0<=k)(hk':k<600)(q:∀H',Ext H H'->Q (.str (BL k cl)) H'):CallOK c (n+2) true "_law_word" [.int k,.int cl] Q E H:=by
 refine G.call (F:=JY nm) h1 rfl ?_;have hl:ofString "abcdefghijklmnopqrstuvwxyz"=letters:=rfl;simp only[JY,hl];show Af _ (_::_::_::_::LP) _ _ _ [some (.int k),some (.int cl),none,none,none,none,none,none] _;refine rl BG (rl At ?_);dsimp only[tv,length_cons,length_nil,Nat.reduceAdd,set_cons_succ,set_cons_zero,Aq];refine rl BG (rl At ?_);dsimp only[tv,length_cons,length_nil,Nat.reduceAdd,set_cons_succ,set_cons_zero,Av,Au,Aq,Ad,Aw,B7,ne_eq,getElem?_cons_succ,BW];simp[Aw,Aq,Ad,Av,Bo,AF,Am,Ar,Bd,Au,Bf,A_,A6,A1,Ax,Ba,AB,AN,Bg,An,Al,AT,AQ,Do,Df,CR,Dg,tv,AC,AM,B_,C7,De,Ds,BW,B7,Er,D9,Bc,Bx,Bw,Cq,AD,Ce,CF,Dd,AS,C1,Az,Eo,Eg];refine JK (BD ((by decide))) (BV ((by decide)))<|JK (BD ((by decide))) (BV ((by decide)))<|rl D9 ?_;have htold:(⟨#[CH ((k.fdiv 26).fmod 26)]⟩++⟨#[CH (k.fmod 26)]⟩:Str)=⟨(Cn k).toArray⟩:=rfl;refine rl htold ⟨by show 1+1<=sizeLine;simp[sizeLine],?_⟩;refine rl BG (rl At ?_);dsimp only[tv,length_cons,length_nil,Nat.reduceAdd,set_cons_succ,set_cons_zero,A6,Al,An,Aq,Ad,getElem?_cons_succ,Aw];refine Ii G h2<|rl BG (rl A7 ?_);dsimp only[Ar,Aq,Av,Ad,getElem?_cons_succ,Aw,B7,ne_eq,AD,Az,beq_iff_eq];simp[Aw,Aq,Ad,Av,Bo,AF,Am,Ar,Bd,Au,Bf,A_,A6,A1,Ax,Ba,AB,AN,Bg,An,Al,AT,AQ,Do,Df,CR,Dg,tv,AC,AM,B_,C7,De,Ds,BW,B7,Er,D9,Bc,Bx,Bw,Cq,AD,Ce,CF,Dd,AS,C1,Az,Eo,Eg];by_cases hc:cl.fmod 2=1
 ·simp[hc,Az];refine rl BG (rl At ?_);dsimp only[tv,length_cons,length_nil,Nat.reduceAdd,set_cons_succ,set_cons_zero,A6,Al,An,Ad,Aw,getElem?_cons_succ];refine Ii G h2<|rl BG (rl A7 ?_);dsimp only[Am,AQ,AT,Ar,Aq,Ad,Aw,Bc,Az,decide_eq_true_eq,Av,getElem?_cons_succ,B7,ne_eq,AD,beq_iff_eq];simp[Aw,Aq,Ad,Av,Bo,AF,Am,Ar,Bd,Au,Bf,A_,A6,A1,Ax,Ba,AB,AN,Bg,An,Al,AT,AQ,Do,Df,CR,Dg,tv,AC,AM,B_,C7,De,Ds,BW,B7,Er,D9,Bc,Bx,Bw,Cq,AD,Ce,CF,Dd,AS,C1,Az,Eo,Eg];by_cases hr:(AL cl k).fmod 12=11
  ·by_cases hk2:k<26
   ·simp[hr,hk2,Az];refine rl BG (rl Bp (JK hk hk2 ?_));have:=q H .refl;simpa[BL,CM,hc,hr,hk2]using this
   ·simp[hr,hk2,Az];refine rl Ci (rl Ci (L7 λH' hE=>?_));have:=q H' hE;simpa[BL,CM,hc,hr,hk2]using this
  ·simp[hr,Az];refine rl Ci (rl Ci (L7 λH' hE=>?_));have:=q H' hE;simpa[BL,CM,hc,hr]using this
 ·simp[hc,Az];refine rl Ci<|L7 λH' hE=>?_;have:=q H' hE;simpa[BL,CM,hc]using this
theorem P5(r:Int):(CG r ((r.fdiv 12).fmod 11).toNat).1.length<=10:=by
 refine rl (Jy ..) ?_;have:=BV (x:=r.fdiv 12) (m:=11) (by decide);exact KQ this
theorem Vo:(BL k cl).length<=12:=by
 show(CM k cl).length<=12;unfold CM;split
 ·dsimp only;split
  ·exact(by decide:1<=12)
  ·exact rl length_append<|add_le_add (le_refl 2) (P5 _)
 ·dsimp only;exact rl (length_append ..) (rl (length_append ..) (rl (Nat.add_right_comm ..) (rl (Eq.symm (length_append ..)) (rl (take_append_drop ..) (add_le_add (P5 _) (le_refl 2))))))
end
theorem QP:∀i:Fin 26,CH ((i.val:Nat):Int)=97+i.val:=by decide +kernel
theorem Mt(h0:0<=i)(h1:i<26)(h2:0<=j)(h3:j<26)(h:CH i=CH j):i=j:=by
 have a:=QP ⟨i.toNat,Jp h1⟩;have b:=QP ⟨j.toNat,Jp h3⟩;simp only[toNat_of_nonneg h0,toNat_of_nonneg h2]at a b;lia
theorem Pu{k k':Int}(h0:0<=k)(h1:k<600)(h2:0<=k')(h3:k'<600)(h:Cn k=Cn k'):k=k':=by
 simp only[Cn,List.cons.injEq,and_true]at h;have a:=Mt (BD ((by decide))) (BV ((by decide))) (BD ((by decide))) (BV ((by decide))) h.1;have b:=Mt (BD ((by decide))) (BV ((by decide))) (BD ((by decide))) (BV ((by decide))) h.2;rw[fmod_eq_emod_of_nonneg _ ((by decide)),fmod_eq_emod_of_nonneg _ ((by decide)),Int.fdiv_eq_ediv_of_nonneg _ ((by decide)),Int.fdiv_eq_ediv_of_nonneg _ ((by decide))]at a;rw[fmod_eq_emod_of_nonneg _ ((by decide)),fmod_eq_emod_of_nonneg _ ((by decide))]at b;lia
set_option tactic.hygienic true in
theorem Vp(h0:0<=k)(h1:k<600)(h2:0<=k')(h3:k'<600)(h:BL k cl=BL k' cl):k=k':=by
 have h:CM k cl=CM k' cl:=by
  have:=congrArg (λs=>s.cps.toList) h;simpa[BL]using this
 unfold CM at h;split at h
 ·dsimp only at h;split at h
  ·rename_i ha;split at h
   ·rename_i hb;simp only[List.cons.injEq,and_true]at h;exact Mt h0 ha.2 h2 hb.2 h
   ·have:=congrArg List.length h;simp[Cn]at this
  ·split at h
   ·have:=congrArg List.length h;simp[Cn]at this
   ·have e:Cn k=Cn k':=by
     have:=congrArg (List.take 2) h;simpa[Cn]using this
    exact Pu h0 h1 h2 h3 e
 ·dsimp only at h;rw[append_assoc,append_assoc]at h;have:=List.append_cancel_left h;exact Pu h0 h1 h2 h3 (List.append_cancel_right this)
theorem Gj:lk (e::l) s=if e.1=s then some e.2 else lk l s:=by
 unfold lk;refine rl (find?_cons) ?_;by_cases h:e.1=s<;>simp[h]
theorem RK{l:List (Str×Int)}:lk (l.map λe=>if e.1=k then(e.1,x) else e) s=if s=k then(lk l k).map (λ_=>x) else lk l s:=by
 induction l with
 |nil=>by_cases h:s=k<;>simp[h,lk]
 |cons e r ih=>
  refine rl map_cons (rl Gj (rl Gj (rl Gj (rl ih ?_))));by_cases h:e.1=k
  ·by_cases h2:s=k
   ·simp[h,h2]
   ·have:¬ k=s:=λe=>h2 e.symm;simp[h,h2,this]
  ·by_cases h2:s=k
   ·simp[h,h2]
   ·simp[h,h2]
theorem RL(h:lk l k=none):lk (l++[(k,x)]) s=if s=k then some x else lk l s:=by
 induction l with
 |nil=>refine rl (nil_append ..) (rl (Gj ..) ?_);by_cases h2:s=k<;>simp[h2,lk] ;exact λe=>absurd e.symm h2
 |cons e r ih=>
  rw[Gj]at h;by_cases h1:e.1=k
  ·simp[h1]at h
  ·rw[if_neg h1]at h;refine rl cons_append (rl Gj (rl Gj (rl (ih h) ?_)));by_cases h2:s=k
   ·simp[h2,h1]
   ·simp[h2]
set_option tactic.hygienic true in
theorem N9{l:List (Str×Int)}:lk (pt l k x) s=if s=k then some x else lk l s:=by
 unfold pt;split
 ·rename_i h;refine rl RK<|e11 (isSome_iff_exists.mp h) λy hy=>?_;refine rl hy ?_;rfl
 ·rename_i h;exact RL (by simpa using h)
theorem SQ:hs (pt l k x) s=(decide (s=k)||hs l s):=by
 unfold hs;refine rl N9 ?_;by_cases h:s=k<;>simp[h]
noncomputable def AU:List Pc->Str->Option (Nat×Pc)
 |[],_=>none
 |q::r,k=>if q.name=k then some (0,q) else(AU r k).map λe=>(e.1+1,e.2)
theorem Du:AU (q::r) k=if q.name=k then some (0,q) else(AU r k).map λe=>(e.1+1,e.2):=rfl
theorem D5(h:AU ps k=some (j,q)):ps[j]? =some q/\q.name=k:=by
 induction ps generalizing j with
 |nil=>cases h
 |cons q' r ih=>
  rw[Du]at h;by_cases e:q'.name=k
  ·rw[if_pos e]at h;cases h;exact⟨rfl,e⟩
  ·rw[if_neg e]at h;refine e12 (map_eq_some_iff.mp h) λz00 h1 h2=>?_;obtain⟨j',q''⟩:=z00;cases h2;exact ih h1
theorem Ll(h:pactsAt o H i as ps):Bb (dP ps as) k=(AU ps k).bind λe=>(as[e.1]?).map .ref:=by
 induction ps generalizing i as with
 |nil=>cases as with
  |nil=>rfl
  |cons=>exact h.elim
 |cons q qs ih=>
  cases as with
  |nil=>exact h.elim
  |cons a as=>
  unfold Bb;refine rl Du (rl (find?_cons) ?_);by_cases e:q.name=k
  ·refine rl (if_pos e) (rl (show decide ((q.name,AV.ref a).1=k)=true from decide_eq_true e) ?_);rfl
  ·refine rl (if_neg e) (rl (show decide ((q.name,AV.ref a).1=k)=false from decide_eq_false e) ?_);have:=ih h.2;unfold Bb at this;refine rl this ?_;cases AU qs k<;>rfl
theorem G7(h:pactsAt o H i as ps)(e:ps[j]? =some q):∃a,as[j]? =some a/\IsPact o H (i+j) a q:=by
 induction ps generalizing i as j with
 |nil=>cases e
 |cons q' qs ih=>
  cases as with
  |nil=>exact h.elim
  |cons a as=>
   cases j with
   |zero=>obtain rfl:=Ak e;exact⟨a,rfl,h.1⟩
   |succ j=>
    exact e12 (ih h.2 e) λa' h1 h2=>⟨a',h1,by exact rl (Eq.symm (Nat.add_assoc ..)) (rl (Nat.add_right_comm ..) h2)⟩
theorem Qg(h:a≠b):Role.pact a≠.pact b:=λz=>h (Role.pact.inj z)
theorem Q2(h:a≠b):Role.inside a≠.inside b:=λz=>h (Role.inside.inj z)
theorem To(h:pactsAt o H i as ps)(k:KB (λr=>r≠.pact (i+j)/\r≠.inside (i+j)) o o H H')(e:as[j]? =some a)(hq:IsPact o H' (i+j) a q):pactsAt o H' i as (ps.set j q):=by
 induction ps generalizing i as j with
 |nil=>cases as with
  |nil=>cases e
  |cons=>exact h.elim
 |cons q' qs ih=>
  cases as with
  |nil=>exact h.elim
  |cons b as=>
   cases j with
   |zero=>
    obtain rfl:=Ak e;refine⟨hq,h.2.congr k ⟨(λz=>by trivial),λz=>by trivial⟩ λm hm=>?_⟩;have hne:m≠i+0:=ne_of_gt hm;exact⟨⟨Qg hne,λz=>by trivial⟩,(λz=>by trivial),Q2 hne⟩
   |succ j=>
    have hne:i≠i+(j+1):=ne_of_lt (Nat.lt_add_of_pos_right (succ_pos j));refine⟨h.1.congr k ⟨(λz=>by trivial),λz=>by trivial⟩ ⟨⟨Qg hne,λz=>by trivial⟩,(λz=>by trivial),Q2 hne⟩,?_⟩;rw[show i+(j+1)=i+1+j by exact rl (Eq.symm (Nat.add_assoc ..)) (rl (Nat.add_right_comm ..) rfl)]at k hq;exact ih h.2 k e hq
theorem Si(h:ps[j]? =some q)(e:q'.name=q.name):dP (ps.set j q') as=dP ps as:=by
 induction ps generalizing as j with
 |nil=>cases h
 |cons p ps ih=>
  cases as with
  |nil=>cases j<;>rfl
  |cons a as=>
   cases j with
   |zero=>obtain rfl:=Ak h;show(q'.name,AV.ref a)::dP ps as=_;refine rl e ?_;rfl
   |succ j=>show(p.name,AV.ref a)::dP (ps.set j q') as=_;refine rl (ih h) ?_;rfl
theorem IsBook.setPact(ib:IsBook o H b f s p as B)(hj:B.pacts[j]? =some q)(ha:as[j]? =some a)(k:KB (λr=>r≠.pact j/\r≠.inside j) o o H H')(hq:IsPact o H' j a q')(hn:q'.name=q.name):IsBook o H' b f s p as {B with pacts:=B.pacts.set j q'}:=by
 refine e11 ib.hf λe1 h1=>e11 ib.hs λe2 h2=>e11 ib.hp λe3 h3=>?_;have n:∀{r:Role},(∀i,r≠.pact i)->(∀i,r≠.inside i)->r≠.pact j/\r≠.inside j:=λh h'=>⟨h j,h' j⟩
 refine⟨ib.ob,ib.of,ib.os,ib.op,(k b _ _ ⟨(λz=>by trivial),λz=>by trivial⟩ ib.ob ib.hb rfl).2,⟨e1,(k f _ _ ⟨(λz=>by trivial),λz=>by trivial⟩ ib.of h1 rfl).2⟩,⟨e2,(k s _ _ ⟨(λz=>by trivial),λz=>by trivial⟩ ib.os h2 rfl).2⟩,⟨e3,?_⟩,?_⟩
 ·show H' p=some (.dict e3 (dP (B.pacts.set j q') as));exact rl (Si hj hn) ((k p _ _ ⟨(λz=>by trivial),λz=>by trivial⟩ ib.op h3 rfl).2)
 ·exact To ib.ps (rl (zero_add ..) k) ha (rl (zero_add ..) hq)
noncomputable def BY(B:Bk):AV->Option (Nat×Pc)
 | .str k=>if A9 k then AU B.pacts k else none
 |_=>none
structure Bt(P:Pg):Prop where
 a:Dv P
 need_pact:P.fns.lookup "Book.need_pact"=some BK.ZA
 need_open:P.fns.lookup "Book.need_open"=some BK.ZB
section
variable(G:Gd c P)(U:Bt P)
theorem JD(ib:IsBook o H b f s p as B)(q:Q (.bool ((AU B.pacts k).isSome != no)) H):win no (.str k) (.ref p) Q H:=by
 refine e11 ib.hp λep hp=>?_
 (dsimp only[FF];refine rl hp ?_)
 show Q (.bool (nt no (Bb (dP B.pacts as) k).isSome)) H;refine rl (Ll ib.ps) (rl nt_eq.symm ?_);cases e:AU B.pacts k with
 |none=>rw[e]at q;exact q
 |some x=>
  refine e12 (G7 ib.ps (D5 (j:=x.1) (q:=x.2) e).1) λa h1 _=>?_;rw[e]at q;show Q (.bool (((as[x.1]?).map AV.ref).isSome != no)) H;exact rl h1 q
theorem J0(ib:IsBook o H b f s p as B)(e:AU B.pacts k=some (j,x))(q:∀a,as[j]? =some a->IsPact o H j a x->Q (.ref a) H):A8 (.ref p) (.str k) Q H:=by
 refine e11 ib.hp λep hp=>e12 (G7 ib.ps (D5 e).1) λa h1 h2=>?_
 (dsimp only[CU];refine rl hp ?_)
 refine⟨.ref a,rl (Ll ib.ps) (rl e ?_),q a h1 (by rw[zero_add]at h2;exact h2)⟩;show(as[j]?).map AV.ref=_;refine rl h1 ?_;rfl
include G U
theorem HY(ib:IsBook o H b f s p as B)(hk:Kn H v)(q:match BY B v with|some (j,x)=>∀a,as[j]? =some a->IsPact o H j a x->Q (.ref a) H|none=>E "NoPact" H):CallOK c (n+2) true "Book.need_pact" [.ref b,v] Q E H:=by
 refine G.call (F:=BK.ZA) U.need_pact rfl ?_;have hA:c.P.attrs=BK.attrs:=by exact rl G.hP (rl U.a.attrs rfl)
 show Af _ _ _ _ _ [some (.ref b),some v] _;refine Ab λK nx=>?_;dsimp only[A7,BG,Ci,Cz,Am,AQ,AT,Ar,C1,Ad,getElem?_cons_succ,Aw,AF,Az,Bool.not_eq_eq_eq_not,Bool.not_true,Bool.not_false,A6,Al,An];refine Lv G U.a hk ?_;cases hn:CE v with
 |false=>
  have:BY B v=none:=by cases v<;>first|rfl|exact if_neg (λz=>Bool.false_ne_true (hn.symm.trans z))
  rw[this]at q;exact⟨rfl,q⟩
 |true=>
  obtain⟨k,rfl⟩:∃k,v = .str k:=⟨_,Iq hn⟩
  have hpv:BY B (.str k)=AU B.pacts k:=if_pos hn;rw[hpv]at q
  (dsimp only[Az];refine Eq.mpr (if_pos (by decide)) ?_)
  refine EF hA ib rfl (JD ib ?_);cases e:AU B.pacts k with
  |none=>
   rw[e]at q;exact⟨rfl,q⟩
  |some x=>
   rw[e]at q;refine nx _ _<|Ab λK nx=>?_;dsimp only[Bp,Au];exact EF hA ib rfl (J0 ib (j:=x.1) (x:=x.2) e q)
end
noncomputable def Dl(x:Pc):List (Str×AV):=x.inside.map λk=>(k,.bool true)
theorem Ie:∀{ts:List Addr} {l:List (Str×Int)} {m:Nat} {t:Addr},pairsAV o H ts l->ts[m]? =some t->∃e,l[m]? =some e/\o t=some .data/\H t=some (.tuple [.str e.1,.int e.2])
 |t::_,e::_,0,_,h,z=>by obtain rfl:=Ak z;exact⟨e,rfl,h.1,h.2.1⟩
 |_::ts,_::l,m+1,_,h,z=>Ie (m:=m) h.2.2 z
 |[],[],_,_,_,z=>by cases z
 |[],_::_,_,_,h,_=>h.elim
 |_::_,[],_,_,h,_=>h.elim
theorem G9:∀{ts:List Addr} {l:List (Str×Int)},pairsAV o H ts l->ts.length=l.length
 |[],[],_=>rfl
 |_::_,_::_,h=>congrArg Nat.succ (G9 h.2.2)
 |[],_::_,h=>h.elim
 |_::_,[],h=>h.elim
theorem EH(h:H a=some (.tuple xs))(h0:0<=i)(hk:xs[i.toNat]? =some v)(hl:xs.length<=100000)(q:Q v H):A8 (.ref a) (.int i) Q H:=by
 have hlt:i.toNat<xs.length:=(AJ hk).1
 (dsimp only[DL];refine rl h ?_)
 exact⟨i.toNat,v,by simp only[Dj,h0,if_true];exact rl (if_pos (Int.lt_of_toNat_lt hlt)) rfl,by lia,Int.le_trans (by decide) h0,hk,q⟩
theorem FJ(h:H t=some (.tuple [.str k,.int i]))(q:Q (.str k) H):A8 (.ref t) (.int 0) Q H:=EH h (by decide) rfl (by simp) q
theorem J'(h:H t=some (.tuple [.str k,.int i]))(q:Q (.int i) H):A8 (.ref t) (.int 1) Q H:=EH h (by decide) rfl (by simp) q
section
variable{c:Cx}{P:Pg}(G:Gd c P)(U:Bt P){n:Nat}{md:Bool}{Q:AV->Ac->Prop}{E:String->Ac->Prop}{H:Ac}{o:Addr->Option Role}{b f s p a:Addr}{as:List Addr}{B:Bk}{j:Nat}{x:Pc}
section
variable{g:Gx}{V:VV}{i:Nat}(hP:g.c.P.attrs=BK.attrs)(ip:IsPact o H j a x)(hV:V[i]? =some (some (.ref a)))
include hP ip hV
theorem Ip(q:Q (.str x.state.str) H):Aj g (.attr (.var i) "state") V Q E H:=by
 exact e52 ip.at_ λpa ga ne ins ep h _=>Cp hV h ⟨rl hP rfl,q⟩
theorem JN(q:Q (.str x.name) H):Aj g (.attr (.var i) "name") V Q E H:=by
 exact e52 ip.at_ λpa ga ne ins ep h _=>Cp hV h ⟨rl hP rfl,q⟩
theorem Xb(q:Q (.int x.last) H):Aj g (.attr (.var i) "last") V Q E H:=by
 exact e52 ip.at_ λpa ga ne ins ep h _=>Cp hV h ⟨rl hP rfl,q⟩
theorem JA(q:∀z,PairsAt o H z x.parts->Q (.ref z) H):Aj g (.attr (.var i) "parts") V Q E H:=by
 exact e53 ip.at_ λpa ga ne ins ep h h1 _=>Cp hV h ⟨rl hP rfl,q pa h1⟩
theorem Vj(q:∀z,PairsAt o H z x.gains->Q (.ref z) H):Aj g (.attr (.var i) "gains") V Q E H:=by
 exact e54 ip.at_ λpa ga ne ins ep h h1 h2 _=>Cp hV h ⟨rl hP rfl,q ga h2⟩
theorem Pq(q:∀z,o z=some .data->H z=some (.list (Ae x.needs))->Q (.ref z) H):Aj g (.attr (.var i) "needs") V Q E H:=by
 exact e56 ip.at_ λpa ga ne ins ep h h1 h2 h3 h4 _=>Cp hV h ⟨rl hP rfl,q ne h3 h4⟩
theorem L6(q:∀z ep,o z=some (.inside j)->H z=some (.dict ep (Dl x))->(∀ep' l,IsPact o (up H z (.dict ep' (l.map λk=>(k,.bool true)))) j a {x with inside:=l})->Q (.ref z) H):Aj g (.attr (.var i) "inside") V Q E H:=by
 obtain⟨h0,pa,ga,ne,ins,ep,h,h1,h2,h3,h4,h5,h6⟩:=ip;refine Cp hV h ⟨rl hP rfl,q ins ep h5 h6 λep' l=>?_⟩;have kb:∀y,KB (λr=>r = .data) o o H (up H ins y):=λy=>Fp λr hr z=>by rw[h5]at hr;cases hr;cases z
 exact⟨h0,pa,ga,ne,ins,ep',by refine rl (Ag (CS h0 h5 (by intro z;trivial))) ?_;exact h,h1.congr (kb _) rfl,h2.congr (kb _) rfl,h3,by refine rl (Ag (CS h3 h5 (by intro z;trivial))) ?_;exact h4,h5,Ah⟩
theorem PR(hM:g.c.P.meths=BK.meths)(hm:BK.meths.contains ("Pact",m)=true)(hn:["name","parts","gains","needs","last","state","inside"].contains m=false)
  (q:Ay g xs V (λvs H=>CallOK g.c g.n g.md ("Pact."++m) (.ref a::vs) Q E H) E H):Aj g (.meth (.var i) m xs) V Q E H:=by
 refine e52 ip.at_ λpa ga ne ins ep h _=>Jh hV h ⟨rl hM hm,?_,q⟩;simp only[contains_cons,List.contains_nil,Bool.or_false,Bool.or_eq_false_iff,beq_eq_false_iff_ne]at hn;refine Yt hn λn1 n2 n3 n4 n5 n6 n7=>?_;simp[C5,n1.symm,n2.symm,n3.symm,n4.symm,n5.symm,n6.symm,n7.symm]
end
include G U
theorem NP(ib:IsBook o H b f s p as B)(hk:Kn H v)(q:match BY B v with|some (j,x)=>(if x.state = .opn then ∀a,as[j]? =some a->IsPact o H j a x->Q (.ref a) H else E "NotOpen" H)|none=>E "NoPact" H):CallOK c (n+3) true "Book.need_open" [.ref b,v] Q E H:=by
 refine G.call (F:=BK.ZB) U.need_open rfl ?_;have hA:c.P.attrs=BK.attrs:=by exact rl G.hP (rl U.a.attrs rfl)
 have hM:c.P.meths=BK.meths:=by exact rl G.hP (rl U.a.meths rfl)
 show Af _ _ _ _ _ [some (.ref b),some v,none] _;refine Ab λK nx=>?_;dsimp only[At];refine Cl hM (by decide) (by decide) ib rfl ?_;dsimp only[String.reduceAppend,tv,length_cons,length_nil,Nat.reduceAdd,set_cons_succ,set_cons_zero,Al,An,Ad,getElem?_cons_succ,Aw];refine HY G U ib hk ?_;cases e:BY B v with
 |none=>rw[e]at q;exact q
 |some z=>
  obtain⟨j,x⟩:=z;rw[e]at q;intro a ha ip;refine⟨by decide,nx _ _ ?_⟩;refine Ab λK nx=>?_;dsimp only[A7,Ar];refine Ip hA ip rfl ?_;by_cases h:x.state = .opn
  ·have q:∀a,as[j]? =some a->IsPact o H j a x->Q (.ref a) H:=by simpa only[h,if_true]using q
   refine Eq.mpr (if_neg (by refine rl h ?_;decide)) ?_;exact nx _ _ (q a ha ip)
  ·have q:E "NotOpen" H:=by simpa only[h,if_false]using q
   refine Eq.mpr (if_pos (by revert h;cases x.state<;>decide)) ?_;exact⟨rfl,q⟩
omit U in
theorem TP(hU:P.fns.lookup "Pact.part_of"=some BK.Zm)(hA:c.P.attrs=BK.attrs)(ip:IsPact o H j a x)(q:Q (match lk x.parts k with|some i=>.int i|none=>.none) H):CallOK c (n+1) true "Pact.part_of" [.ref a,.str k] Q E H:=by
 refine G.call (F:=BK.Zm) hU rfl<|Ab λK nx=>⟨rfl,JA hA ip rfl λz ⟨hz,ts,hts,hl⟩=>CD (xs:=ts.map .ref) (Bu hts) (λm V' H'=>H'=H/\(∃pr,V'=[some (.ref a),some (.str k),pr])/\lk (x.parts.take m) k=none) ⟨rfl,⟨_,rfl⟩,rfl⟩ ?_⟩
 rintro I hI m V' H' ⟨rfl,⟨pr,rfl⟩,hm⟩;refine⟨rfl,λhlen=>?_,λy hy=>?_⟩
 ·rw[hlen,length_map,G9 hl,take_length]at hm;rw[hm]at q;exact nx _ _ q
 ·rw[getElem?_map,map_eq_some_iff]at hy;obtain⟨t,ht,rfl⟩:=hy;refine e13 (Ie hl ht) λe he _ htt=>⟨show 2<3 by decide,?_⟩
  refine Ab λK nx=>?_;dsimp only[set_cons_succ,set_cons_zero,A7,BG,Ci,Bp,Au,Aq,Ad,getElem?_cons_succ,Aw,Ar];refine FJ htt ?_;dsimp only[CF,Az];have hsplit:x.parts.take (m+1)=x.parts.take m++[e]:=by refine rl take_add_one (rl he ?_);rfl
  by_cases h:e.1=k
  ·refine Eq.mpr (if_pos (rl h (beq_self_eq_true k)))<|J' htt ?_;have:lk x.parts k=some e.2:=by
    have hlk:lk (x.parts.take (m+1)) k=some e.2:=by
     refine rl hsplit ?_;unfold lk at hm⊢;refine rl (find?_append) (rl (map_eq_none_iff.mp hm) ?_);simp[h]
    unfold lk at hlk⊢;refine e12 (map_eq_some_iff.mp hlk) λw hw hw2=>?_;refine rl (Eq.symm (take_append_drop (m+1) x.parts)) (rl (find?_append) (rl hw ?_));exact congrArg some hw2
   rw[this]at q;exact q
  ·refine Eq.mpr (if_neg (by simpa using h))<|nx _ _ (hI _ _ _ ⟨rfl,⟨_,rfl⟩,?_⟩);refine rl hsplit ?_;unfold lk at hm⊢;refine rl (find?_append) (rl (map_eq_none_iff.mp hm) ?_);simp[h]
end
noncomputable def Go(B:Bk)(k:Str)(i:Int):Bk:={B with aside:=pt B.aside k ((lk B.aside k).getD 0 - i),free:=pt B.free k ((lk B.free k).getD 0+i)}
noncomputable def Dh(B:Bk)(v w:AV):Except String Bk:=
 if CK B v then
  match BY B w with
  |none=>.error "NoPact"
  |some (j,x)=>if x.state = .opn then
    match lk x.parts (Bh v)with
    |none=>.error "NoPart"
    |some i=>if Bh v∈x.inside then .error "Already" else if EO B v<i then .error "TooLittle" else
      .ok {B with pacts:=B.pacts.set j {x with inside:=x.inside++[Bh v]},free:=pt B.free (Bh v) (EO B v - i),aside:=pt B.aside (Bh v) (JV B v+i)}
   else .error "NotOpen"
 else .error "NoPurse"
structure BkOK(B:Bk):Prop where
 sz:B.Sz
 both:∀k,hs B.free k=true->hs B.aside k=true
 len:B.pacts.length<=100
 part:∀(j:Nat) (x:Pc),B.pacts[j]? =some x->∀k∈x.inside,(lk x.parts k).isSome=true
 inl:∀(j:Nat) (x:Pc),B.pacts[j]? =some x->x.inside.length<=100/\x.parts.length<=100/\x.gains.length<=100/\x.needs.length<=100
 purse:∀(j:Nat) (x:Pc),B.pacts[j]? =some x->∀e:Str×Int,e∈x.parts\/e∈x.gains->hs B.free e.1=true
theorem Ig(h:BY B w=some (j,x)):B.pacts[j]? =some x:=by
 cases w with
 |str k=>
  by_cases c:A9 k=true
  ·exact(D5 (show AU B.pacts k=some (j,x) from(if_pos c).symm.trans h)).1
  ·exact nomatch((if_neg c).symm.trans h:none=some (j,x))
 |_=>trivial
theorem JC{l:List Str}:(Bb (l.map λk=>(k,AV.bool true)) k).isSome=decide (k∈l):=by
 unfold Bb
 induction l with
 |nil=>rfl
 |cons y r ih=>
  refine rl map_cons (rl (find?_cons) ?_);by_cases e:y=k
  ·refine rl (show decide ((y,AV.bool true).1=k)=true from decide_eq_true e) ?_;simp[e]
  ·refine rl (show decide ((y,AV.bool true).1=k)=false from decide_eq_false e)<|ih.trans ?_;simp[show k≠y from λz=>e z.symm]
theorem Mh{l:List Str}(h:k∉l):AI (l.map λk=>(k,AV.bool true)) k (.bool true)=(l++[k]).map λk=>(k,AV.bool true):=by
 unfold AI;refine rl JC (rl (decide_eq_false h) ?_);simp
section
variable{c:Cx}{P:Pg}(G:Gd c P)(U:Bt P){n:Nat}{md:Bool}{Q:AV->Ac->Prop}{E:String->Ac->Prop}{H:Ac}{o:Addr->Option Role}{b f s p a:Addr}{as:List Addr}{B:Bk}{j:Nat}{x:Pc}
section
variable{g:Gx}{V:VV}{QN:VV->Ac->Prop}{i m:Nat}{k:Str}(hP:g.c.P.attrs=BK.attrs)(ib:IsBook o H b f s p as B)(hj:B.pacts[j]? =some x)(ha:as[j]? =some a)(ip:IsPact o H j a x)(hV:V[i]? =some (some (.ref a)))
include hP ib hj ha ip hV
theorem Ur(hm:V[m]? =some (some (.str k)))(hk:k∉x.inside)(hl:x.inside.length<=100)(q:∀H',IsBook o H' b f s p as {B with pacts:=B.pacts.set j {x with inside:=x.inside++[k]}}->Fr1 o H o H'->QN V H'):DT g (.sub (.attr (.var i) "inside") (.var m)) (.bool true) V QN E H:=by
 dsimp only[AC];refine L6 hP ip hV λz ep hz hd up'=>?_;dsimp only[Ad];refine rl hm ?_;dsimp only;refine rl hd ⟨by rw[Dl,length_map];exact le_trans hl (by decide),λep'=>?_⟩;rw[Dl,Mh hk];refine q _ (ib.setPact hj ha (Fp λr hr=>by rw[hz]at hr;obtain rfl:=Ak hr;exact λw=>w.2 rfl) (up' ep' _) rfl) (FI (by refine rl hz ?_;simp))
theorem QK(he:∀Q',Q' (.str k) H->Aj g e V Q' E H)(q:Q (.bool (decide (k∈x.inside) != no)) H):Aj g (.cmp (if no then .NotIn else .In) e (.attr (.var i) "inside")) V Q E H:=by
 refine he _ (L6 hP ip hV λz ep hz hd up'=>?_);have:win no (.str k) (.ref z) Q H:=by
  (dsimp only[FF];refine rl hd ?_)
  show Q (.bool (nt no (Bb (Dl x) k).isSome)) H;rw[Dl,JC,<-nt_eq];exact q
 cases no<;>exact this
end
include G U
theorem UN(hU:P.fns.lookup "Book.set_aside"=some BK.Zv)(hU2:P.fns.lookup "Pact.part_of"=some BK.Zm)(ib:IsBook o H b f s p as B)(hk:Kn H v)(hw:Kn H w)(ok:BkOK B)
  (q:Ends (Dh B v w) (λB'=>∀H',IsBook o H' b f s p as B'->Fr1 o H o H'->Q .none H') (λcl=>E cl H)):CallOK c (n+4) true "Book.set_aside" [.ref b,v,w] Q E H:=by
 refine G.call (F:=BK.Zv) hU rfl ?_;have hA:c.P.attrs=BK.attrs:=by exact rl G.hP (rl U.a.attrs rfl)
 have hM:c.P.meths=BK.meths:=by exact rl G.hP (rl U.a.meths rfl)
 show Af _ _ _ _ _ [some (.ref b),some v,some w,none,none] _;unfold Dh at q;refine Ab λK nx=>?_;dsimp only[AP];refine Cl hM (by decide) (by decide) ib rfl ?_;dsimp only[String.reduceAppend,Al,An,Ad,getElem?_cons_succ,Aw];refine Lk G U.a ib hk ?_;cases hp:CK B v with
 |false=>rw[hp]at q;exact q
 |true=>
 obtain⟨k,rfl⟩:∃k,v = .str k:=⟨_,(G4 hp).1⟩
 have hf:=Od hp;have hs':=GX (ok.both _ (G4 hp).2);rw[hp]at q;refine nx _ _<|Ab λK nx=>?_;dsimp only[At];refine Cl hM (by decide) (by decide) ib rfl ?_;dsimp only[String.reduceAppend,tv,length_cons,length_nil,Nat.reduceAdd,set_cons_succ,set_cons_zero,Al,An,Ad,getElem?_cons_succ,Aw];refine NP G U ib hw ?_;cases e:BY B w with
 |none=>rw[e]at q;exact q
 |some z=>
 obtain⟨j,x⟩:=z;rw[e]at q;have hj:=Ig e;show if x.state = .opn then _ else _
 by_cases ho:x.state = .opn
 case neg=>
  refine Eq.mpr (if_neg ho) ?_;rw[if_pos rfl]at q;dsimp only at q;rw[if_neg ho]at q;exact q
 refine Eq.mpr (if_pos ho) ?_;rw[if_pos rfl]at q;dsimp only at q;rw[if_pos ho]at q;intro a ha ip;refine⟨by decide,nx _ _ ?_⟩;refine Ab λK nx=>?_;dsimp only[At];refine PR hA ip rfl hM (by decide) (by decide) ?_;dsimp only[String.reduceAppend,tv,length_cons,length_nil,Nat.reduceAdd,set_cons_succ,set_cons_zero,Al,An,Ad,getElem?_cons_succ,Aw];refine TP G hU2 hA ip ⟨by decide,nx _ _ ?_⟩;refine Ab λK nx=>?_;cases hl:lk x.parts k with
 |none=>
  have q:E "NoPart" H:=by rw[show Bh (.str k)=k from rfl,hl]at q;exact q
  exact⟨rfl,q⟩
 |some i=>
 rw[show Bh (.str k)=k from rfl,hl]at q;refine nx _ _<|Ab λK nx=>QK (no:=false) (k:=k) hA ib hj ha ip rfl (λQ' h=>h) ?_;by_cases hi:k∈x.inside
 ·refine rl (decide_eq_true hi) ?_;have q:E "Already" H:=by simpa only[hi,if_true,Ends]using q
  exact⟨rfl,q⟩
 refine rl (decide_eq_false hi) ?_;have q:Ends (if EO B (.str k)<i then .error "TooLittle" else .ok {B with pacts:=B.pacts.set j {x with inside:=x.inside++[k]},free:=pt B.free k (EO B (.str k) - i),aside:=pt B.aside k (JV B (.str k)+i)}) (λB'=>∀H',IsBook o H' b f s p as B'->Fr1 o H o H'->Q .none H') (λcl=>E cl H):=by simpa only[hi,if_false]using q
 refine nx _ _<|Ab λK nx=>?_;dsimp only[A7,Ar,Au];refine EJ hA ib rfl (Im ib hf ?_);dsimp only[Ad,getElem?_cons_succ,Aw,Bc,Az,decide_eq_true_eq];by_cases hlt:EO B (.str k)<i
 ·refine rl (decide_eq_true hlt) ?_;have q:E "TooLittle" H:=by simpa only[hlt,if_true,Ends]using q
  exact⟨rfl,q⟩
 refine rl (decide_eq_false hlt) ?_;have q:∀H',IsBook o H' b f s p as {B with pacts:=B.pacts.set j {x with inside:=x.inside++[k]},free:=pt B.free k (EO B (.str k) - i),aside:=pt B.aside k (JV B (.str k)+i)}->Fr1 o H o H'->Q .none H':=by simpa only[hlt,if_false,Ends]using q
 refine nx _ _<|Ab λK nx=>?_;dsimp only[At,Aq];refine Ur (k:=k) hA ib hj ha ip rfl rfl hi (ok.inl j x hj).1 λH1 ib1 f1=>nx _ _<|Ab λK nx=>?_;dsimp only[At,Av,Au];refine EJ hA ib1 rfl (Im (v:=EO B (.str k)) ib1 hf ?_);dsimp only[Ad,getElem?_cons_succ,Aw,De];refine Mf (k:=k) hA ib1 ok.sz.1 rfl rfl λH2 ib2 f2=>nx _ _<|Ab λK nx=>?_;dsimp only[At,Av,Au];refine GB hA ib2 rfl (LA (v:=JV B (.str k)) ib2 hs' ?_);dsimp only[Ad,getElem?_cons_succ,Aw,C7];exact Pk (k:=k) hA ib2 ok.sz.2 rfl rfl λH3 ib3 f3=>nx _ _<|q H3 ib3 ((f1.trans f2).trans f3)
end
noncomputable def CX(x:Pc):Bool:=x.state==.opn&&x.inside.length==x.parts.length
theorem Iz{x:Sta}:(x.str==ofString "open")=(x==.opn):=by cases x<;>decide
theorem My{x:Sta}:(x.str==ofString "done")=(x==.dn):=by cases x<;>decide
theorem Me{x:Sta}:(x.str==ofString "fallen")=(x==.fln):=by cases x<;>decide
section
variable{c:Cx}{P:Pg}(G:Gd c P)(U:Bt P){n:Nat}{md:Bool}{Q:AV->Ac->Prop}{E:String->Ac->Prop}{H:Ac}{o:Addr->Option Role}{b f s p a:Addr}{as:List Addr}{B:Bk}{j:Nat}{x:Pc}
section
variable{g:Gx}{V:VV}{QN:VV->Ac->Prop}{i m:Nat}{k:Str}(hP:g.c.P.attrs=BK.attrs)(ib:IsBook o H b f s p as B)(hj:B.pacts[j]? =some x)(ha:as[j]? =some a)(ip:IsPact o H j a x)(hV:V[i]? =some (some (.ref a)))
include hP ib hj ha ip hV
end
include G U
set_option tactic.hygienic true in
omit U in
theorem Ox(hU:P.fns.lookup "Pact.is_full"=some BK.Za)(hA:c.P.attrs=BK.attrs)(ip:IsPact o H j a x)(h1:x.inside.length<=100)(h2:x.parts.length<=100)(q:Q (.bool (CX x)) H):CallOK c (n+1) md "Pact.is_full" [.ref a] Q E H:=by
 refine G.call (F:=BK.Za) hU rfl ?_;show Af _ _ _ _ _ [some (.ref a)] _;refine Ab λK nx=>?_;dsimp only[Bp,Am,AQ,Ar];refine Ip hA ip rfl ?_
 (dsimp only[Aq,CF,Az];refine rl Iz ?_)
 unfold CX at q;cases hs:x.state==Sta.opn with
 |false=>rw[hs]at q;exact q
 |true=>
  rw[hs]at q;refine Eq.mpr (if_pos rfl) (Eq.mpr (AT) (Eq.mpr (Ar) (Eq.mpr (A1) (Eq.mpr (Al) (L6 hA ip rfl λz ep hz hd _=>rl An (rl Fj (rl hd ⟨by rw[Dl,length_map];exact lt_of_le_of_lt (by assumption) (by decide),rl A1 (rl Al (JA hA ip rfl λz' ⟨_,ts,hts,hl⟩=>?_))⟩)))))))
  (dsimp only[An,Fj];refine rl hts ?_)
  have e1:=G9 hl;refine⟨by refine rl (length_map ..) ?_;exact HJ (by decide) e1 h2,?_⟩
  (dsimp only[AD];rw[Dl,length_map,length_map,e1])
  have:(((x.inside.length:Nat):Int)==((x.parts.length:Nat):Int))=(x.inside.length==x.parts.length):=by
   by_cases h:x.inside.length=x.parts.length
   ·refine rl h ?_;simp
   ·refine rl (beq_eq_false_iff_ne.mpr h) ?_;exact beq_eq_false_iff_ne.mpr λz=>h (Int.ofNat.inj z)
  refine rl this ?_;exact q
theorem Tf(hU:P.fns.lookup "Book.state_of"=some BK.Zy)(ib:IsBook o H b f s p as B)(hk:Kn H v)(q:match BY B v with|some (j,x)=>Q (.str x.state.str) H|none=>E "NoPact" H):CallOK c (n+3) true "Book.state_of" [.ref b,v] Q E H:=by
 refine G.call (F:=BK.Zy) hU rfl ?_;have hA:c.P.attrs=BK.attrs:=by exact rl G.hP (rl U.a.attrs rfl)
 have hM:c.P.meths=BK.meths:=by exact rl G.hP (rl U.a.meths rfl)
 refine Ab λK nx=>?_;dsimp only[Bp,BO];refine Cl hM (by decide) (by decide) ib rfl<|HY G U ib hk ?_;cases e:BY B v with
 |none=>rw[e]at q;exact q
 |some z=>
  obtain⟨j,x⟩:=z;rw[e]at q;intro a ha ip;refine e52 ip.at_ λpa ga ne ins ep h _=>?_;show match H a with|some (.inst _ _)=>_|some (.book _)=>_|_=>False
  exact rl h ⟨by refine rl hA ?_;rfl,q⟩
theorem VG(hU:P.fns.lookup "Book.full"=some BK.Zz)(hU2:P.fns.lookup "Pact.is_full"=some BK.Za)(ib:IsBook o H b f s p as B)(ok:BkOK B)(hk:Kn H v)(q:match BY B v with|some (j,x)=>Q (.bool (CX x)) H|none=>E "NoPact" H):CallOK c (n+3) true "Book.full" [.ref b,v] Q E H:=by
 refine G.call (F:=BK.Zz) hU rfl ?_;have hA:c.P.attrs=BK.attrs:=by exact rl G.hP (rl U.a.attrs rfl)
 have hM:c.P.meths=BK.meths:=by exact rl G.hP (rl U.a.meths rfl)
 show Af _ _ _ _ _ [some (.ref b),some v] _;refine Ab λK nx=>Eq.mpr (Bp) (Eq.mpr (BE) (Cl hM (by decide) (by decide) ib rfl ?_));dsimp only[String.reduceAppend,An,Al,Ad,getElem?_cons_succ,Aw];refine HY G U ib hk ?_;cases e:BY B v with
 |none=>rw[e]at q;exact q
 |some z=>
  obtain⟨j,x⟩:=z;rw[e]at q;intro a ha ip;refine e52 (id ip.at_) λpa ga ne ins ep h _=>?_;have hl:=ok.inl j x (Ig e);show match H a with|some (.inst _ _)=>_|some (.book _)=>_|_=>False
  exact rl h ⟨by refine rl hM ?_;rfl,rfl,Ox G hU2 hA ip hl.1 hl.2.1 q⟩
end
noncomputable def D7(ins:List Str):List (Str×Int)->Bk->Bk
 |[],B=>B
 |e::l,B=>D7 ins l (if e.1∈ins then Go B e.1 e.2 else B)
theorem QM:D7 ins (e::l) B=D7 ins l (if e.1∈ins then Go B e.1 e.2 else B):=rfl
noncomputable def CN(B:Bk)(j:Nat)(x:Pc):Bk:={D7 x.inside x.parts B with pacts:=B.pacts.set j {x with inside:=[],state:=.fln}}
theorem Lm:∀{l:List (Str×Int)} {B:Bk},D7 ins (l++[e]) B=(if e.1∈ins then Go (D7 ins l B) e.1 e.2 else D7 ins l B)
 |[],B=>rfl
 |e'::l,B=>Lm (l:=l)
theorem FC(h:hs l k=true):(pt l k x).length=l.length/\∀s,hs (pt l k x) s=hs l s:=by
 refine⟨?_,λs=>?_⟩
 ·unfold pt;exact rl (if_pos (show(lk l k).isSome=true from h) ..) (rl (length_map ..) rfl)
 ·refine rl SQ ?_;by_cases e:s=k
  ·refine rl e (rl h ?_);simp
  ·simp[e]
structure SameB(B B':Bk):Prop where
 day:B'.day=B.day
 fl:B'.free.length=B.free.length
 al:B'.aside.length=B.aside.length
 fh:∀s,hs B'.free s=hs B.free s
 ah:∀s,hs B'.aside s=hs B.aside s
theorem SameB.refl:SameB B B:=⟨rfl,rfl,rfl,λ_=>rfl,λ_=>rfl⟩
theorem SameB.trans(x:SameB B B')(y:SameB B' B''):SameB B B'':=⟨y.day.trans x.day,y.fl.trans x.fl,y.al.trans x.al,λs=>(y.fh s).trans (x.fh s),λs=>(y.ah s).trans (x.ah s)⟩
theorem SameB.give(h:hs B.free k=true)(h':hs B.aside k=true):SameB B (Go B k i):=⟨rfl,(FC h).1,(FC h').1,(FC h).2,(FC h').2⟩
theorem SameB.all:∀{l:List (Str×Int)} {B:Bk},(∀e∈l,hs B.free e.1=true/\hs B.aside e.1=true)->SameB B (D7 ins l B)/\(D7 ins l B).pacts=B.pacts
 |[],B,_=>⟨.refl,rfl⟩
 |e::l,B,h=>by
  have h0:=h e mem_cons_self;rw[QM];by_cases hi:e.1∈ins
  ·refine rl (if_pos hi) ?_;have s1:=SameB.give (i:=e.2) h0.1 h0.2;obtain⟨s2,p2⟩:=SameB.all (ins:=ins) (l:=l) (B:=Go B e.1 e.2) λe' he=>by exact rl (s1.fh ..) (rl (s1.ah ..) (h e' (mem_cons_of_mem _ he)))
   exact⟨s1.trans s2,p2⟩
  ·exact rl (if_neg hi)<|SameB.all λe' he=>h e' (mem_cons_of_mem _ he)
theorem BkOK.keep{B B':Bk}(ok:BkOK B)(sm:SameB B B')(hl:B'.pacts.length=B.pacts.length)(hp:∀(j:Nat) (y:Pc),B'.pacts[j]? =some y->∃x,B.pacts[j]? =some x/\y.parts=x.parts/\y.gains=x.gains/\y.needs=x.needs/\∀k∈y.inside,(lk x.parts k).isSome=true)(hi:∀(j:Nat) (y:Pc),B'.pacts[j]? =some y->y.inside.length<=100):BkOK B':=by
 refine⟨⟨by refine rl sm.fl ?_;exact ok.sz.1,by refine rl sm.al ?_;exact ok.sz.2⟩,λk h=>?_,by refine rl hl ?_;exact ok.len,λj y hy k hk=>?_,λj y hy=>?_,λj y hy e he=>?_⟩
 ·refine rl (sm.ah ..) ?_;rw[sm.fh]at h;exact ok.both k h
 ·refine e15 (hp j y hy) λx h1 h2 h3 h4 h5=>?_;refine rl h2 ?_;exact h5 k hk
 ·refine e15 (hp j y hy) λx h1 h2 h3 h4 h5=>?_;have:=ok.inl j x h1;exact⟨hi j y hy,by refine rl h2 ?_;exact this.2.1,by refine rl h3 ?_;exact this.2.2.1,by refine rl h4 ?_;exact this.2.2.2⟩
 ·refine e15 (hp j y hy) λx h1 h2 h3 h4 h5=>?_;rw[h2,h3]at he;refine rl (sm.fh ..) ?_;exact ok.purse j x h1 e he
set_option tactic.hygienic true in
theorem JG{ps:List Pc}(h:(ps.set j x')[m]? =some y):(m=j/\y=x'/\j<ps.length)\/(m≠j/\ps[m]? =some y):=by
 rw[List.getElem?_set]at h;by_cases e:j=m
 ·rw[if_pos e]at h;split at h
  ·obtain rfl:=Ak h;exact .inl ⟨e.symm,rfl,by assumption⟩
  ·trivial
 ·rw[if_neg e]at h;exact .inr ⟨λz=>e z.symm,h⟩
theorem BkOK.giveAble{B:Bk}{j:Nat}(ok:BkOK B)(hj:B.pacts[j]? =some x):∀e∈x.parts,hs B.free e.1=true/\hs B.aside e.1=true:=λe he=>have h:=ok.purse j x hj e (.inl he);⟨h,ok.both _ h⟩
theorem BkOK.fell{B:Bk}{j:Nat}(ok:BkOK B)(hj:B.pacts[j]? =some x):BkOK (CN B j x):=by
 refine Ap (SameB.all (ins:=x.inside) (ok.giveAble hj)) λsm hp=>ok.keep ⟨sm.day,sm.fl,sm.al,sm.fh,sm.ah⟩ length_set (λm y hy=>?_) λm y hy=>?_
 ·rcases JG hy with⟨rfl,rfl,_⟩|⟨_,h⟩
  ·exact⟨x,hj,rfl,rfl,rfl,λk hk=>by trivial⟩
  ·exact⟨y,h,rfl,rfl,rfl,ok.part m y h⟩
 ·rcases JG hy with⟨rfl,rfl,_⟩|⟨_,h⟩
  ·exact zero_le _
  ·exact(ok.inl m y h).1
section
variable(G:Gd c P)(U:Bt P)
theorem IsBook.pact(ib:IsBook o H b f s p as B)(hj:B.pacts[j]? =some x)(ha:as[j]? =some a):IsPact o H j a x:=by
 refine e12 (G7 ib.ps hj) λa' h1 h2=>?_;rw[ha]at h1;obtain rfl:=Ak h1;rw[zero_add]at h2;exact h2
def KD(o:Addr->Option Role)(H H':Ac):Prop:=∀y,o y=some .data->H' y=H y
theorem KD.up(h:o y=some r)(hr:r≠.data):KD o H (up H y z):=λw hw=>Ag λe=>by subst e;rw[h]at hw;obtain rfl:=Ak hw;exact hr rfl
theorem KD.trans(h:KD o H H')(h':KD o H' H''):KD o H H'':=λy hy=>(h' y hy).trans (h y hy)
include G U
omit U in
theorem Th(hU:P.fns.lookup "Book.given_back"=some BK.Zb)(hA:c.P.attrs=BK.attrs)(ib:IsBook o H b f s p as B)(hz:B.Sz)(hf:hs B.free k=true)(hs':hs B.aside k=true)(q:∀H',IsBook o H' b f s p as (Go B k i)->Fr1 o H o H'->KD o H H'->Q .none H'):CallOK c (n+1) true "Book.given_back" [.ref b,.str k,.int i] Q E H:=by
 refine G.call (F:=BK.Zb) hU rfl ?_;show Af _ _ _ _ _ [some (.ref b),some (.str k),some (.int i)] _;refine e11 ib.hf λef hf0=>e11 ib.hs λes hs0=>?_;have hfs:f≠s:=CS ib.of ib.os (by intro h;trivial);refine Ab λK nx=>?_;dsimp only[At,Av,Au];refine GB hA ib rfl (LA ib (GX hs') ?_);dsimp only[Ad,getElem?_cons_succ,Aw,De];dsimp only[AC];refine GB hA ib rfl ?_;dsimp only[Ad,getElem?_cons_succ,Aw];refine rl hs0 ⟨by refine rl G_ ?_;exact hz.2,λe1=>nx _ _ ?_⟩;refine rl GQ ?_;have ib1:=ib.setAside e1 (pt B.aside k ((lk B.aside k).getD 0 - i));refine Ab λK nx=>?_;dsimp only[At,Av,Au];refine EJ hA ib1 rfl (Im (v:=(lk B.free k).getD 0) ib1 (GX hf) ?_);dsimp only[Ad,getElem?_cons_succ,Aw,C7];dsimp only[AC];refine EJ hA ib1 rfl ?_;dsimp only[Ad,getElem?_cons_succ,Aw];refine rl (Ag hfs) (rl hf0 ⟨by refine rl G_ ?_;exact hz.1,λe2=>nx _ _ ?_⟩);exact rl GQ (q _ (ib1.setFree e2 _) ((FI (by refine rl ib.os ?_;simp)).trans (FI (by refine rl ib.of ?_;simp))) ((KD.up ib.os (by intro h;trivial)).trans (KD.up ib.of (by intro h;trivial))))
theorem Mo(hU:P.fns.lookup "Book.fell"=some BK.Ze)(hU2:P.fns.lookup "Book.given_back"=some BK.Zb)(ib:IsBook o H b f s p as B)(ok:BkOK B)(hj:B.pacts[j]? =some x)(ha:as[j]? =some a)
  (q:∀o' H',IsBook o' H' b f s p as (CN B j x)->Fr1 o H o' H'->Q (.str x.name) H'):CallOK c (n+2) true "Book.fell" [.ref b,.ref a] Q E H:=by
 refine G.call (F:=BK.Ze) hU rfl ?_;have hA:c.P.attrs=BK.attrs:=by exact rl G.hP (rl U.a.attrs rfl)
 have hM:c.P.meths=BK.meths:=by exact rl G.hP (rl U.a.meths rfl)
 have hC:∀n,BK.attrs.contains ("Pact",n)=true->c.P.attrs.contains ("Pact",n)=true:=λn h=>by refine rl hA ?_;exact h
 have able:=ok.giveAble hj;refine Ab λK nx=>⟨rfl,JA hA (ib.pact hj ha) rfl λz ⟨hz,ts,hts,hl⟩=>CD (xs:=ts.map .ref) (Bu hts) (λm V' H'=>(∃pr,V'=[some (.ref b),some (.ref a),pr])/\IsBook o H' b f s p as (D7 x.inside (x.parts.take m) B)/\Fr1 o H o H'/\KD o H H') ⟨⟨_,rfl⟩,by refine rl take_zero ?_;exact ib,.refl,λ_ _=>rfl⟩ ?_⟩
 rintro I hI m V' H' ⟨⟨pr,rfl⟩,ib',fr',kd'⟩;refine Ap (SameB.all (ins:=x.inside) (l:=x.parts.take m) (B:=B) λe he=>able e (mem_of_mem_take he)) λsm hp=>?_;have hj':(D7 x.inside (x.parts.take m) B).pacts[j]? =some x:=by refine rl hp ?_;exact hj
 refine⟨kd' z hz,λhlen=>?_,λy hy=>?_⟩
 ·rw[hlen,length_map,G9 hl,take_length]at ib' sm hp hj';refine nx _ _ ?_;obtain⟨h0,pa,ga,ne,ins,ep,h,h1,h2,h3,h4,h5,h6⟩:=ib'.pact hj' ha;refine Ab λK nx=>?_;intro w hw;have haw:a≠w:=λe=>by rw[e,hw]at h;trivial
  refine B9 rfl (hC _ rfl) (by refine rl (Ag haw) ?_;exact h) (by exact(show 7<=100 by decide)) (nx _ _ ?_);refine Ab λK nx=>?_;dsimp only[At,Aq];refine B9 rfl (hC _ rfl) Ah (by exact(show 7<=100 by decide)) (nx _ _ ?_);have kb0:KB (λ_=>True) o (λy=>if y=w then some (.inside j) else o y) H' (Internal.up H' w (.dict 0 [])):=λy r v _ hr hv _=>by
   have:y≠w:=λe=>by rw[e,hw]at hv;trivial
   exact⟨(if_neg this).trans hr,by refine rl (Ag this) ?_;exact hv⟩
  have ib1:=ib'.congr kb0;generalize ho:(λy=>if y=w then some (Role.inside j) else o y)=o' at kb0 ib1;have hoa:o' a=some (.pact j):=by refine rl ho.symm ?_;exact(if_neg haw).trans h0
  have how:o' w=some (.inside j):=by refine rl ho.symm ?_;exact if_pos rfl
  have kb1:∀{X:Ac} {y:AObj},KB (λr=>r≠.pact j/\r≠.inside j) o' o' X (Internal.up X a y):=Fp λr hr=>by rw[hoa]at hr;obtain rfl:=Ak hr;exact λz=>z.1 rfl
  have kbd:∀{X:Ac} {y:AObj},KB (λr=>r = .data) o' o' X (Internal.up X a y):=Fp λr hr=>by rw[hoa]at hr;cases hr;exact λz=>by cases z
  have kb0':KB (λr=>r = .data) o o' H' (Internal.up H' w (.dict 0 [])):=λy r v _ hr hv hb=>kb0 y r v trivial hr hv hb;have ip:IsPact o' (Internal.up (Internal.up (Internal.up H' w (.dict 0 [])) a (.inst "Pact" (Cv [("name",.str x.name),("parts",.ref pa),("gains",.ref ga),("needs",.ref ne),("last",.int x.last),("state",.str x.state.str),("inside",.ref ins)] "inside" (.ref w)))) a (.inst "Pact" (Cv (Cv [("name",.str x.name),("parts",.ref pa),("gains",.ref ga),("needs",.ref ne),("last",.int x.last),("state",.str x.state.str),("inside",.ref ins)] "inside" (.ref w)) "state" (.str (ofString "fallen"))))) j a {x with inside:=[],state:=.fln}:=by
   refine⟨hoa,pa,ga,ne,w,0,Ah,((h1.congr kb0' rfl).congr kbd rfl).congr kbd rfl,((h2.congr kb0' rfl).congr kbd rfl).congr kbd rfl,?_,?_,how,?_⟩
   ·exact(kb0' ne _ _ rfl h3 h4 rfl).1
   ·have:=kb0' ne _ _ rfl h3 h4 rfl;have hna:ne≠a:=CS this.1 hoa (by intro z;trivial);refine rl (Ag hna) (rl (Ag hna) ?_);exact this.2
   ·refine rl (Ag haw.symm) (rl (Ag haw.symm) (rl Ah ?_));rfl
  refine Ab λK nx=>?_;dsimp only[Bp];refine JN hA ip rfl ?_;have ib2:=ib1.setPact hj' ha (λy r v hr ho hv hb=>kb1 y r v hr ho (kb1 y r v hr ho hv hb).2 hb) ip rfl;rw[hp]at ib2;refine q o' _ ib2 (fr'.trans ⟨λy v hy ho'=>?_,λy h=>Cm (Cm (Cm h))⟩);have hyw:y≠w:=λe=>by rw[e,hw]at hy;trivial
  have hya:y≠a:=λe=>by rw[e,h0]at ho';trivial
  exact⟨by refine rl (Ag hya) (rl (Ag hya) (rl (Ag hyw) ?_));exact hy,by refine rl ho.symm ?_;exact(if_neg hyw).trans ho'⟩
 ·rw[getElem?_map,map_eq_some_iff]at hy;obtain⟨t,ht,rfl⟩:=hy;refine e13 (Ie hl ht) λe he htd htt=>?_;have htt':H' t=some (.tuple [.str e.1,.int e.2]):=by refine rl (kd' t htd) ?_;exact htt
  refine⟨show 2<3 by decide,?_⟩;refine Ab λK nx=>?_;have hsplit:x.parts.take (m+1)=x.parts.take m++[e]:=by refine rl take_add_one (rl he ?_);rfl
  refine QK (no:=false) (k:=e.1) hA ib' hj' ha (ib'.pact hj' ha) rfl (λQ' h=>FJ htt' h) ?_;by_cases hi:e.1∈x.inside
  ·refine rl (decide_eq_true hi)<|Ab λK2 nx2=>?_;dsimp only[AP];refine Cl hM (by decide) (by decide) ib' rfl<|Eq.mpr (Al) (Eq.mpr (Au) (FJ htt' (rl Al (rl Au (J' htt' ?_)))));have hem:e∈x.parts:=mem_of_getElem? he;refine Th G hU2 hA ib' ⟨by refine rl (sm.fl ..) ?_;exact ok.sz.1,by refine rl (sm.al ..) ?_;exact ok.sz.2⟩ (by refine rl (sm.fh ..) ?_;exact(able e hem).1) (by refine rl (sm.ah ..) ?_;exact(able e hem).2) λH2 ib2 fr2 kd2=>nx2 _ _ (nx _ _ (hI _ _ _ ⟨⟨_,rfl⟩,?_,fr'.trans fr2,kd'.trans kd2⟩));refine rl hsplit (rl Lm (rl (if_pos hi) ?_));exact ib2
  ·refine rl (decide_eq_false hi)<|nx _ _ (hI _ _ _ ⟨⟨_,rfl⟩,?_,fr',kd'⟩);refine rl hsplit (rl Lm (rl (if_neg hi) ?_));exact ib'
end
noncomputable def FQ(g:Pc->Bool):List Pc->Option (Nat×Pc)
 |[]=>none
 |q::r=>if g q then some (0,q) else(FQ g r).map λe=>(e.1+1,e.2)
theorem IP:FQ g (q::r)=if g q then some (0,q) else(FQ g r).map λe=>(e.1+1,e.2):=rfl
theorem Qq:∀{ps:List Pc} {m:Nat} {x:Pc},(∀i y,i<m->ps[i]? =some y->g y=false)->ps[m]? =some x->g x=true->FQ g ps=some (m,x)
 |q::r,0,x,_,h,hg=>by obtain rfl:=Ak h;exact rl IP (rl (if_pos hg) rfl)
 |q::r,m+1,x,hi,h,hg=>by
  rw[IP];refine rl (if_neg (by rw[hi 0 q (succ_pos m) rfl];decide)) (rl (Qq (ps:=r) (m:=m) (λi y hm hy=>hi (i+1) y (Nat.succ_lt_succ hm) hy) h hg) ?_);rfl
 |[],_,_,_,h,_=>by trivial
theorem PJ:∀{ps:List Pc},(∀(i:Nat) y,ps[i]? =some y->g y=false)->FQ g ps=none
 |[],_=>rfl
 |q::r,h=>by
  rw[IP];refine rl (if_neg (by rw[h 0 q rfl];decide)) (rl (PJ (ps:=r) λi y hy=>h (i+1) y hy) ?_);rfl
theorem Mp(h:FQ g ps=some (m,x)):ps[m]? =some x/\g x=true:=by
 induction ps generalizing m with
 |nil=>cases h
 |cons q r ih=>
  rw[IP]at h;by_cases hg:g q=true
  ·rw[if_pos hg]at h;cases h;exact⟨rfl,hg⟩
  ·rw[if_neg hg]at h;obtain⟨⟨m',x'⟩,h1,h2⟩:=map_eq_some_iff.mp h;cases h2;exact ih h1
noncomputable def BA(B:Bk)(k:Str):Bool:=match AU B.pacts k with
 |some e=>e.2.state==.fln
 |none=>false
noncomputable def Ep(B:Bk)(x:Pc):Bool:=x.state==.opn&&x.needs.any (BA B)
noncomputable def CV(B:Bk):Option (Nat×Pc):=FQ (Ep B) B.pacts
noncomputable def Dp:Nat->Bk->List Str->Bk×List Str
 | 0,B,l=>(B,l)
 |n+1,B,l=>match CV B with
  |none=>(B,l)
  |some e=>Dp n (CN B e.1 e.2) (l++[e.2.name])
noncomputable def IL(B:Bk):Nat:=B.pacts.countP λq=>q.state==.opn
theorem Ui{g:Pc->Bool}{ps:List Pc}(h:ps[j]? =some x)(h1:g x=true)(h2:g x'=false):(ps.set j x').countP g+1=ps.countP g:=by
 induction ps generalizing j with
 |nil=>cases h
 |cons q r ih=>
  cases j with
  |zero=>obtain rfl:=Ak h;exact rl set_cons_zero (rl (List.countP_cons_of_neg (by rw[h2];exact Bool.false_ne_true)) (rl (List.countP_cons_of_pos h1) rfl))
  |succ j=>exact rl (set_cons_succ ..) (rl (List.countP_cons ..) (rl (List.countP_cons ..) (rl (Nat.add_right_comm ..) (rl (ih h ..) rfl))))
theorem Oh(h:B.pacts[j]? =some x)(ho:(x.state==.opn)=true):IL (CN B j x)+1=IL B:=Ui h ho rfl
theorem GK:∀{i:Nat} {as:List Addr} {ps:List Pc},pactsAt o H i as ps->(dP ps as).map (·.2)=as.map AV.ref/\as.length=ps.length
 |_,[],[],_=>⟨rfl,rfl⟩
 |i,a::as,q::qs,h=>by
  exact Ap (GK h.2) λh1 h2=>⟨by show(_::dP _ _).map _=_;rw[map_cons,h1];rfl,congrArg Nat.succ h2⟩
 |_,[],_::_,h=>h.elim
 |_,_::_,[],h=>h.elim
theorem IsBook.upN(ib:IsBook o H b f s p as B)(hz:o z=none)(y:AObj):IsBook o (up H z y) b f s p as B:=
 ib.congr λa r v _ hr hv _=>⟨hr,by refine rl (Ag (λe=>by rw[e,hz]at hr;trivial)) ?_;exact hv⟩
section
variable(G:Gd c P)(U:Bt P)
theorem L8{g:Gx}{V:VV}{i:Nat}(hP:g.c.P.attrs=BK.attrs)(hmd:g.md=true)(ib:IsBook o H b f s p as B)(hl:B.pacts.length<=100)(hV:V[i]? =some (some (.ref b)))
  (q:∀z o' H',H z=none->o' z=none->H' z=some (.list (as.map .ref))->IsBook o' H' b f s p as B->Fr1 o H o' H'->Q (.ref z) H'):Aj g (.prim .list [.bm (.attr (.var i) "pacts") .values []]) V Q E H:=by
 refine e11 ib.hp λep hp=>Ap (GK ib.ps) λe1 e2=>?_;have e3:(dP B.pacts as).length=as.length:=by have:=congrArg List.length e1;simpa using this
 dsimp only[A1,Al,Ax];refine EF hP ib hV ⟨?_,?_⟩
 ·show match H p with|some (.list _)=>_|some (.dict _ _)=>_|_=>False
  refine rl hp ?_;exact .inl rfl
 (dsimp only[An,N1];refine rl hp ?_)
 intro z1 hz1;have hpz:p≠z1:=λe=>by rw[e,hz1]at hp;trivial
 refine Ap (ib.fresh hz1 (.vals p)) λib1 f1=>?_
 (dsimp only[An,Gc];refine rl Ah ?_)
 show match up H z1 (.vals p) p with|some (.dict _ _)=>_|_=>False
 refine rl (Ag hpz) (rl hp ⟨hmd,by refine rl e3 (rl e2 ?_);exact le_trans hl (by decide),λz2 hz2=>?_⟩);refine Ap (ib1.fresh hz2 (.list ((dP B.pacts as).map (·.2)))) λib2 f2=>?_;have hz0:H z2=none:=by
  have hne:z2≠z1:=λe=>by rw[e,Ah]at hz2;trivial
  rw[Ag hne]at hz2;exact hz2
 exact q z2 _ _ hz0 (if_pos rfl) (by exact rl Ah (rl e1 rfl)) ib2 (f1.trans f2)
theorem OL(hP:g.c.P.attrs=BK.attrs)(ip:IsPact o H j a x)(he:∀Q':AV->Ac->Prop,Q' (.ref a) H->Aj g e V Q' E H)(q:Q (.str x.state.str) H):Aj g (.attr e "state") V Q E H:=by
 refine e52 ip.at_ λpa ga ne ins ep h _=>he _ ?_;show match H a with|some (.inst _ _)=>_|some (.book _)=>_|_=>False
 exact rl h ⟨by refine rl hP ?_;rfl,q⟩
include G U
theorem NM(hU:P.fns.lookup "Book.first_dragged"=some BK.Zf)(ib:IsBook o H b f s p as B)(ok:BkOK B)
  (q:∀o' H',IsBook o' H' b f s p as B->Fr1 o H o' H'->match CV B with|some e=>∀a,as[e.1]? =some a->Q (.ref a) H'|none=>Q .none H'):CallOK c (n+1) true "Book.first_dragged" [.ref b] Q E H:=by
 refine G.call (F:=BK.Zf) hU rfl ?_;have hA:c.P.attrs=BK.attrs:=by rw[G.hP,U.a.attrs]
 refine Ab λK nx=>⟨rfl,L8 hA rfl ib ok.len rfl λz o' H1 _ hzo hz1 ib1 f1=>?_⟩
 have q:=q o' H1 ib1 f1;refine Ap (GK ib1.ps) λ_ e2=>CD (xs:=as.map .ref) (Bu hz1) (λm V' H'=>H'=H1/\(∃p1 p2,V'=[some (.ref b),p1,p2])/\∀i y,i<m->B.pacts[i]? =some y->Ep B y=false) ⟨rfl,⟨_,_,rfl⟩,λi y h=>absurd h (not_lt_zero i)⟩ ?_;rintro I hI m V' H' ⟨rfl,⟨p1,p2,rfl⟩,hm⟩;refine⟨rfl,λhlen=>?_,λy hy=>?_⟩
 ·rw[length_map,e2]at hlen;have:CV B=none:=PJ λi y hy=>hm i y (by rw[hlen];exact(AJ hy).1) hy;rw[this]at q;exact nx _ _ q
 rw[getElem?_map,map_eq_some_iff]at hy;obtain⟨a,ha,rfl⟩:=hy;obtain⟨x,hx⟩:∃x,B.pacts[m]? =some x:=⟨B.pacts[m]'(by rw[<-e2];exact(AJ ha).1),getElem?_eq_getElem _⟩
 have ip:=ib1.pact hx ha;refine⟨show 1<3 by decide,?_⟩;refine Ab λK2 nx2=>?_;show A4 _ _ _ _ _ [some (.ref b),some (.ref a),p2] _;dsimp only[A7,Ar];refine Ip hA ip rfl ?_
 (dsimp only[Aq,CF,Az];rw[Iz])
 have next:Ep B x=false->I (m+1) [some (.ref b),some (.ref a),p2] H':=λh=>hI _ _ _ ⟨rfl,⟨_,_,rfl⟩,λi y hi hy=>by
  rcases Nat.lt_succ_iff_lt_or_eq.mp hi with h'|h'
  ·exact hm i y h' hy
  ·subst h';rw[hx]at hy;obtain rfl:=Ak hy;exact h⟩
 cases hs:x.state==Sta.opn with
 |false=>exact nx2 _ _ (next (by unfold Ep;rw[hs];rfl))
 |true=>
 refine Ab λK3 nx3=>⟨rfl,Pq hA ip rfl λzn _ hzn=>CD (xs:=Ae x.needs) (Bu hzn) (λi V' H2=>H2=H'/\(∃p2,V'=[some (.ref b),some (.ref a),p2])/\∀i' k,i'<i->x.needs[i']? =some k->BA B k=false) ⟨rfl,⟨_,rfl⟩,λi y h=>absurd h (not_lt_zero i)⟩ ?_⟩
 rintro J hJ i V' H2 ⟨rfl,⟨p3,rfl⟩,hi⟩;refine⟨rfl,λhlen=>?_,λy hy=>?_⟩
 ·rw[AO]at hlen;refine nx3 _ _ (nx2 _ _ (hI _ _ _ ⟨rfl,⟨_,_,rfl⟩,λi' y hi' hy=>?_⟩));rcases Nat.lt_succ_iff_lt_or_eq.mp hi' with h'|h'
  ·exact hm i' y h' hy
  ·subst h';rw[hx]at hy;obtain rfl:=Ak hy;unfold Ep;rw[hs,Bool.true_and,List.any_eq_false];intro k hk;obtain⟨i2,h2,h3⟩:=mem_iff_getElem.mp hk;rw[hi i2 k (by rw[hlen];exact h2) (by rw[getElem?_eq_getElem h2,h3])];decide
 obtain⟨k,rfl,hk⟩:=Ff hy;refine⟨show 2<3 by decide,?_⟩;refine Ab λK4 nx4=>?_;show A4 _ _ _ _ _ [some (.ref b),some (.ref a),some (.str k)] _;have nextJ:BA B k=false->J (i+1) [some (.ref b),some (.ref a),some (.str k)] H2:=λh=>hJ _ _ _ ⟨rfl,⟨_,rfl⟩,λi' k' hi' hk'=>by
  rcases Nat.lt_succ_iff_lt_or_eq.mp hi' with h'|h'
  ·exact hi i' k' h' hk'
  ·subst h';rw[hk]at hk';obtain rfl:=Ak hk';exact h⟩
 dsimp only[A7,Am,AQ,Ar,Ad];refine EF hA ib1 rfl ?_;dsimp only[AS];refine JD ib1 ?_;cases e:AU B.pacts k with
 |none=>exact nx4 _ _ (nextJ (by unfold BA;rw[e]))
 |some w=>
 dsimp only[AT,Ar];refine e12 (G7 ib1.ps (D5 (j:=w.1) (q:=w.2) e).1) λa' ha' ip'=>?_;rw[zero_add]at ip';refine OL hA ip' (λQ' h=>?_) ?_
 ·dsimp only[Au];refine EF hA ib1 rfl ?_;exact J0 ib1 (j:=w.1) (x:=w.2) e λa'' h'' _=>by rw[ha']at h'';obtain rfl:=Ak h'';exact h
 dsimp only[Aq]
 (dsimp only[CF,Az];rw[Me])
 have hfb:BA B k=(w.2.state==.fln):=by unfold BA;rw[e]
 cases hw:w.2.state==Sta.fln with
 |false=>exact nx4 _ _ (nextJ (hfb.trans hw))
 |true=>
  have hd:Ep B x=true:=by
   unfold Ep;rw[hs,Bool.true_and,any_eq_true];exact⟨k,mem_of_getElem? hk,hfb.trans hw⟩
  have:CV B=some (m,x):=Qq hm hx hd;rw[this]at q;exact q a ha
end
theorem Lo(h:CV B=none):Dp n B l=(B,l):=by
 cases n with
 |zero=>rfl
 |succ n=>show(match CV B with|none=>(B,l)|some e=>Dp n (CN B e.1 e.2) (l++[e.2.name]))=_;exact rl h rfl
theorem Ln(h:CV B=some e):Dp (n+1) B l=Dp n (CN B e.1 e.2) (l++[e.2.name]):=by
 show(match CV B with|none=>(B,l)|some e=>Dp n (CN B e.1 e.2) (l++[e.2.name]))=_;exact rl h rfl
theorem fell_len:(CN B j x).pacts.length=B.pacts.length:=length_set
theorem LV:IL B<=B.pacts.length:=List.countP_le_length
section
variable(G:Gd c P)(U:Bt P)
inductive NK(o:Addr->Option Role)(H:Ac)(b f s p:Addr)(as:List Addr)(R:Bk×List Str)(l0:Nat)(v1:Option AV)(z:Addr)(m:Nat)(V':VV)(H':Ac):Prop
 |mk (o':Addr->Option Role) (B':Bk) (l:List Str) (v:AV) (hV:V'=[some (.ref b),v1,some (.ref z),some v]) (ib:IsBook o' H' b f s p as B') (ok:BkOK B') (fr:Fr1 o H o' H') (hz:H' z=some (.list (Ae l))) (ho:o' z=none) (hl:l.length+m<=l0) (hm:IL B'<=m) (hR:Dp m B' l=R)
   (hv:match CV B' with|some e=>∃a,as[e.1]? =some a/\v = .ref a|none=>v = .none):NK o H b f s p as R l0 v1 z m V' H'
include G U
set_option tactic.hygienic true in
theorem O0(hU:P.fns.lookup "Book.dragged"=some BK.Zh)(hU1:P.fns.lookup "Book.first_dragged"=some BK.Zf)(hU2:P.fns.lookup "Book.fell"=some BK.Ze)(hU3:P.fns.lookup "Book.given_back"=some BK.Zb)
  (ib:IsBook o H b f s p as B)(ok:BkOK B)(hn:H nl=some (.list (Ae l)))(hno:o nl=none)(hl:l.length<=200)
  (q:∀z o' H',H z=none->o' z=none->H' z=some (.list (Ae (Dp B.pacts.length B l).2))->IsBook o' H' b f s p as (Dp B.pacts.length B l).1->Fr1 o H o' H'->Q (.ref z) H'):CallOK c (n+3) true "Book.dragged" [.ref b,.ref nl] Q E H:=by
 refine G.call (F:=BK.Zh) hU rfl ?_;have hM:c.P.meths=BK.meths:=by exact rl G.hP (rl U.a.meths rfl)
 show Af _ _ _ _ _ [some (.ref b),some (.ref nl),none,none] _;refine Ab λK nx=>?_;dsimp only[At,tv,length_cons,length_nil,Nat.reduceAdd,set_cons_succ,set_cons_zero,A1,Al,An,Ad,getElem?_cons_succ,Aw];refine GI hn (by exact le_trans (by assumption) (by decide)) λz hz=>⟨by decide,nx _ _ ?_⟩
 have t71:=ib.fresh hz (.list (Ae l));have ib1:=t71.1;have f1:=t71.2;have hz1:up H z (.list (Ae l)) z=some (.list (Ae l)):=Ah;have hzo:(λa=>if a=z then none else o a) z=(none:Option Role):=if_pos rfl;generalize(λa=>if a=z then none else o a)=o1 at ib1 f1 hzo;generalize up H z (.list (Ae l))=H1 at ib1 f1 hz1;refine Ab λK nx=>?_;dsimp only[At];refine Cl hM (by decide) (by decide) ib1 rfl<|NM G U hU1 ib1 ok λo2 H2 ib2 f2=>?_;have t72:=f2.old _ _ hz1 hzo;have hz2:=t72.1;have hzo2:=t72.2;have key:∀v,(match CV B with|some e=>∃a,as[e.1]? =some a/\v = .ref a|none=>v = .none)->3<4/\K [some (.ref b),some (.ref nl),some (.ref z),some v] H2:=λv hv=>by
  refine⟨by decide,nx _ _ ?_⟩;refine Ab λK nx=>?_;dsimp only[CT];refine⟨rfl,NK o H b f s p as (Dp B.pacts.length B l) (l.length+B.pacts.length) (some (.ref nl)) z,⟨_,o2,B,l,v,rfl,ib2,ok,f1.trans f2,hz2,hzo2,le_refl _,LV,rfl,hv⟩,?_⟩;rintro m V' H' ⟨o',B',l',v',rfl,ib',ok',fr',hz',ho',hl',hm',hR',hv'⟩;dsimp only[Aq];cases e:CV B' with
  |none=>
   rw[e]at hv';subst hv';rw[Lo e]at hR';refine nx _ _ ?_;have q:=q z o' H' hz ho';rw[<-hR']at q;exact q hz' ib' fr'
  |some w=>
   rw[e]at hv';obtain⟨a,ha,rfl⟩:=hv';have t74:=Mp (m:=w.1) (x:=w.2) e;have hj:=t74.1;have hd:=t74.2;have hopn:(w.2.state==Sta.opn)=true:=(Bool.and_eq_true _ _▸(show(w.2.state==Sta.opn&&w.2.needs.any (BA B'))=true from hd)).1;have hop:=Oh hj hopn;obtain⟨m,rfl⟩:∃m',m=m'+1:=⟨m - 1,KM hop hm'⟩
   rw[Ln e]at hR';refine Ab λK2 nx2=>⟨?_,?_⟩
   ·show match H' z with|some (.list _)=>_|some (.dict _ _)=>_|_=>False
    exact rl hz' (.inl rfl)
   dsimp only[Al];refine Cl hM (by decide) (by decide) ib' rfl<|Mo G U hU2 hU3 ib' ok' hj ha λo3 H3 ib3 f3=>?_;have t75:=f3.old _ _ hz' ho';have hz3:=t75.1;have hzo3:=t75.2;dsimp only[An];refine DJ hz3 (by refine rl AO ?_;have:=ok.len;lia) (nx2 _ _ ?_);refine rl txs_snoc ?_;have ib4:=ib3.upN hzo3 (.list (Ae (l'++[w.2.name])));have fr4:Fr1 o H o3 (up H3 z (.list (Ae (l'++[w.2.name])))):=⟨λy v hy hyo=>by
    have:=(fr'.trans f3).old y v hy hyo;exact⟨by refine rl (Ag (λe=>by rw[e,hz]at hy;trivial)) ?_;exact this.1,this.2⟩,λy h=>(fr'.trans f3).gr y (Cm h)⟩
   refine Ab λK3 nx3=>?_;dsimp only[At];refine Cl hM (by decide) (by decide) ib4 rfl ?_;have ok4:=ok'.fell hj;refine NM G U hU1 ib4 ok4 λo5 H5 ib5 f5=>?_;have t76:=f5.old z _ Ah hzo3;have hz5:=t76.1;have hzo5:=t76.2;have fin:∀v,(match CV (CN B' w.1 w.2)with|some e=>∃a,as[e.1]? =some a/\v = .ref a|none=>v = .none)->3<4/\K3 [some (.ref b),some (.ref nl),some (.ref z),some v] H5:=λv hv=>⟨by decide,nx3 _ _ ⟨m,lt_succ_self m,o5,CN B' w.1 w.2,l'++[w.2.name],v,rfl,ib5,ok4,fr4.trans f5,hz5,hzo5,by refine rl length_append ?_;simp only[length_cons,length_nil];lia,HP hop hm',hR',hv⟩⟩
   cases e5:CV (CN B' w.1 w.2)with
   |none=>exact fin _ (by exact rl e5 rfl)
   |some w5=>exact λa5 ha5=>fin _ (rl e5 ⟨a5,ha5,rfl⟩)
 cases e:CV B with
 |none=>exact key _ (by exact rl e rfl)
 |some w=>exact λa ha=>key _ (rl e ⟨a,ha,rfl⟩)
noncomputable def Bs(B:Bk)(w:AV):Except String (Bk×List Str):=match BY B w with
 |none=>.error "NoPact"
 |some e=>if e.2.state = .opn then .ok (Dp B.pacts.length (CN B e.1 e.2) [e.2.name]) else .error "NotOpen"
theorem Xf(hU0:P.fns.lookup "Book.call_off"=some BK.Zw)(hU:P.fns.lookup "Book.dragged"=some BK.Zh)(hU1:P.fns.lookup "Book.first_dragged"=some BK.Zf)(hU2:P.fns.lookup "Book.fell"=some BK.Ze)(hU3:P.fns.lookup "Book.given_back"=some BK.Zb)
  (ib:IsBook o H b f s p as B)(ok:BkOK B)(hw:Kn H w)
  (q:match Bs B w with| .ok r=>∀z o' H',H z=none->o' z=none->H' z=some (.list (Ae r.2))->IsBook o' H' b f s p as r.1->Fr1 o H o' H'->Q (.ref z) H'| .error cl=>E cl H):CallOK c (n+4) true "Book.call_off" [.ref b,w] Q E H:=by
 refine G.call (F:=BK.Zw) hU0 rfl ?_;have hM:c.P.meths=BK.meths:=by exact rl G.hP (rl U.a.meths rfl)
 refine Ab λK nx=>?_;dsimp only[Bp];refine Cl hM (by decide) (by decide) ib rfl ?_;dsimp only[Al,AB];refine Cl hM (by decide) (by decide) ib rfl ?_;dsimp only[Al];refine Cl hM (by decide) (by decide) ib rfl<|NP G U ib hw ?_;unfold Bs at q;cases e:BY B w with
 |none=>rw[e]at q;exact q
 |some x=>
  rw[e]at q;have hj:=Ig (j:=x.1) (x:=x.2) e;show if x.2.state = .opn then _ else _
  by_cases ho:x.2.state = .opn
  ·refine Eq.mpr (if_pos ho) ?_;dsimp only at q;rw[if_pos ho]at q;intro a ha ip;refine Eq.mpr (An)<|Mo G U hU2 hU3 ib ok hj ha λo1 H1 ib1 f1=>rl An ?_;intro z hz;have t77:=ib1.fresh hz (.list (Ae [x.2.name]));have ib2:=t77.1;have f2:=t77.2;refine O0 G U (l:=[x.2.name]) hU hU1 hU2 hU3 ib2 (ok.fell hj) Ah (if_pos rfl) (by simp) λz' o' H' h1 h2 h3 h4 h5=>?_;rw[fell_len]at h3 h4;exact q z' o' H' ((f1.trans f2).gr z' h1) h2 h3 h4 ((f1.trans f2).trans h5)
  ·refine Eq.mpr (if_neg ho) ?_;dsimp only at q;rw[if_neg ho]at q;exact q
end
structure Kv(v:AV):Prop where
 nr:∀a,v≠.ref a
 len:∀s,v = .str s->s.length<2 ^ 62
theorem Kv.kn(h:Kv v):Kn H v:=by
 refine⟨?_,h.len⟩;cases v with
 |ref a=>exact absurd rfl (h.nr a)
 |_=>exact⟨_,rfl⟩
noncomputable def EM(B:Bk):List (AV×AV)->List (Str×Int)->Except String (List (Str×Int))
 |[],acc=>.ok acc
 |e::r,acc=>if CK B e.1 then(if Bh e.1∈acc.map (·.1) then .error "Twice" else if DI e.2 then EM B r (acc++[(Bh e.1,FL e.2)]) else .error "NoAmount") else .error "NoPurse"
theorem Xa:EM B (e::r) acc=if CK B e.1 then(if Bh e.1∈acc.map (·.1) then .error "Twice" else if DI e.2 then EM B r (acc++[(Bh e.1,FL e.2)]) else .error "NoAmount") else .error "NoPurse":=rfl
noncomputable def Ei(B:Bk)(l:List (AV×AV)):Except String (List (Str×Int)):=if 1<=l.length/\l.length<=8 then EM B l [] else .error "NoRow"
def pairsG(o:Addr->Option Role)(H:Ac):List Addr->List (AV×AV)->Prop
 |[],[]=>True
 |t::ts,e::l=>(o t=none/\H t=some (.tuple [e.1,e.2])/\Kv e.1/\Kv e.2)/\pairsG o H ts l
 |_,_=>False
def pairsU(H0:Ac)(o:Addr->Option Role)(H:Ac):List Addr->List (Str×Int)->Prop
 |[],[]=>True
 |t::ts,e::l=>(H0 t=none/\o t=none/\H t=some (.tuple [.str e.1,.int e.2]))/\pairsU H0 o H ts l
 |_,_=>False
theorem Jt:∀{ts:List Addr} {l:List (AV×AV)} {m:Nat} {t:Addr},pairsG o H ts l->ts[m]? =some t->∃e,l[m]? =some e/\o t=none/\H t=some (.tuple [e.1,e.2])/\Kv e.1/\Kv e.2
 |_::_,e::_,0,_,h,z=>by obtain rfl:=Ak z;exact⟨e,rfl,h.1⟩
 |_::ts,_::l,m+1,_,h,z=>Jt (m:=m) h.2 z
 |[],[],_,_,_,z=>by cases z
 |[],_::_,_,_,h,_=>h.elim
 |_::_,[],_,_,h,_=>h.elim
theorem Og:∀{ts:List Addr} {l:List (AV×AV)},pairsG o H ts l->ts.length=l.length
 |[],[],_=>rfl
 |_::_,_::_,h=>congrArg Nat.succ (Og h.2)
 |[],_::_,h=>h.elim
 |_::_,[],h=>h.elim
theorem pairsU.keep(k:∀t v,H0 t=none->o t=none->H t=some (.tuple v)->o' t=none/\H' t=some (.tuple v)):∀{ts:List Addr} {l:List (Str×Int)},pairsU H0 o H ts l->pairsU H0 o' H' ts l
 |[],[],_=>trivial
 |t::_,_::_,h=>⟨⟨h.1.1,k t _ h.1.1 h.1.2.1 h.1.2.2⟩,pairsU.keep k h.2⟩
 |[],_::_,h=>h.elim
 |_::_,[],h=>h.elim
theorem pairsU.snoc(h0:H0 t=none/\o t=none/\H t=some (.tuple [.str e.1,.int e.2])):∀{ts:List Addr} {l:List (Str×Int)},pairsU H0 o H ts l->pairsU H0 o H (ts++[t]) (l++[e])
 |[],[],_=>⟨h0,trivial⟩
 |_::_,_::_,h=>⟨h.1,pairsU.snoc h0 h.2⟩
 |[],_::_,h=>h.elim
 |_::_,[],h=>h.elim
theorem Lr:∀{ts:List Addr} {l:List (Str×Int)},pairsU H0 o H ts l->ts.length=l.length
 |[],[],_=>rfl
 |_::_,_::_,h=>congrArg Nat.succ (Lr h.2)
 |[],_::_,h=>h.elim
 |_::_,[],h=>h.elim
theorem Fr1.upF(fr:Fr1 o H o' H')(hz:H z=none):Fr1 o H o' (up H' z y):=
 ⟨λa v h k=>⟨by refine rl (Ag (λe=>by rw[e,hz]at h;trivial)) ?_;exact(fr.old a v h k).1,(fr.old a v h k).2⟩,λa h=>fr.gr a (Cm h)⟩
inductive NI(B:Bk)(o:Addr->Option Role)(H:Ac)(b f s p:Addr)(as:List Addr)(l:List (AV×AV))(R:Except String (List (Str×Int)))(v1:Option AV)(z sd:Addr)(m:Nat)(V':VV)(H':Ac):Prop
 |mk (o':Addr->Option Role) (acc:List (Str×Int)) (ts:List Addr) (ep:Nat) (pr:Option AV) (hV:V'=[some (.ref b),v1,some (.ref z),some (.ref sd),pr]) (ib:IsBook o' H' b f s p as B) (fr:Fr1 o H o' H') (hz:H' z=some (.list (ts.map .ref))) (hzo:o' z=none) (hs:H' sd=some (.dict ep ((acc.map (·.1)).map λk=>(k,.bool true)))) (hso:o' sd=none)
   (pu:pairsU H o' H' ts acc) (hl:acc.length=m) (hR:EM B (l.drop m) acc=R):NI B o H b f s p as l R v1 z sd m V' H'
section
variable(G:Gd c P)(U:Bt P)
theorem Fz(h:H t=some (.tuple [v,w]))(q:Q v H):A8 (.ref t) (.int 0) Q H:=EH h (by decide) rfl (by simp) q
theorem Jm(h:H t=some (.tuple [v,w]))(q:Q w H):A8 (.ref t) (.int 1) Q H:=EH h (by decide) rfl (by simp) q
include G U
set_option tactic.hygienic true in
theorem NT(hU:P.fns.lookup "Book.pairs_of"=some BK.Zo)(ib:IsBook o H b f s p as B)(hp:H pl=some (.list (ts.map .ref)))(hpo:o pl=none)(hg:pairsG o H ts l)(hll:l.length<=1000)
  (q:match Ei B l with| .ok r=>(∀z ts o' H',H z=none->o' z=none->H' z=some (.list (ts.map .ref))->pairsU H o' H' ts r->IsBook o' H' b f s p as B->Fr1 o H o' H'->Q (.ref z) H')| .error cl=>∀o' H',IsBook o' H' b f s p as B->Fr1 o H o' H'->E cl H'):CallOK c (n+3) true "Book.pairs_of" [.ref b,.ref pl] Q E H:=by
 refine G.call (F:=BK.Zo) hU rfl ?_;have hM:c.P.meths=BK.meths:=by exact rl G.hP (rl U.a.meths rfl)
 have hgl:c.P.consts.lookup "MOST"=some (.int 8):=by refine rl G.hP (rl U.a.consts ?_);rfl
 have hlen:=Og hg;show Af _ _ _ _ _ [some (.ref b),some (.ref pl),none,none,none] _;unfold Ei at q;refine Ab λK nx=>?_;dsimp only[A7,AF,Bd,Aq,A1,Al,Ad];show Ay _ [] _ _ _ _
 (dsimp only[An,Fj];refine rl hp ?_)
 refine⟨by refine rl (length_map ..) ?_;exact HJ (by decide) hlen hll,?_⟩
 (refine rl (length_map ..) (rl (hlen ..) ?_);dsimp only[Bx,Az])
 by_cases h1:1<=l.length
 case neg=>
  rw[if_neg (λh=>h1 h.1)]at q;exact rl (decide_eq_false (by lia)) ⟨rfl,q o H ib .refl⟩
 (refine rl (decide_eq_true (by exact ofNat_lt.mpr (by assumption))) ?_;refine Eq.mpr (if_pos rfl) ?_;dsimp only[A_])
 refine rl hgl ?_;dsimp only[Bx];by_cases h2:l.length<=8
 case neg=>
  rw[if_neg (λh=>h2 h.2)]at q;exact rl (decide_eq_false (by lia)) ⟨rfl,q o H ib .refl⟩
 refine rl (decide_eq_true (by exact ofNat_le.mpr (by assumption))) ?_;rw[if_pos ⟨h1,h2⟩]at q;refine nx _ _<|Ab λK nx=>?_;intro z hz;refine⟨show 2<5 by decide,nx _ _ ?_⟩;refine Ap (ib.fresh hz (.list [])) λib1 f1=>Ab λK nx=>?_;intro sd hsd;refine⟨show 3<5 by decide,nx _ _ ?_⟩;refine Ap (ib1.fresh hsd (.dict 0 [])) λib2 f2=>?_;have hzs:z≠sd:=DP hsd;have hsd0:H sd=none:=Cm hsd;refine Ab λK nx=>?_;dsimp only[BX,Ad];refine⟨rfl,?_⟩;show Bq _ _ (.ref pl) _ _;have fr2:=f1.trans f2;refine Ap (fr2.old _ _ hp hpo) λhp2 hpo2=>CD (xs:=ts.map .ref) (Bu hp2) (NI B o H b f s p as l (EM B l []) (some (.ref pl)) z sd) ⟨_,[],[],0,none,rfl,ib2,fr2,by rw[Ag hzs,Ah];rfl,by rw[if_neg hzs,if_pos rfl],Ah,if_pos rfl,trivial,rfl,rfl⟩ ?_;rintro I hI m V' H' ⟨o',acc,us,ep,pr,rfl,ib',fr',hz',hzo',hs',hso',pu,hlm,hR⟩;refine⟨by show H' pl=_;exact rl ((fr'.old _ _ hp hpo).1) (rl hp2 rfl),λhm=>?_,λy hy=>?_⟩
 ·rw[length_map,hlen]at hm;rw[hm,drop_length]at hR;rw[<-hR]at q;exact nx _ _ (q z us o' H' hz hzo' hz' pu ib' fr')
 rw[getElem?_map,map_eq_some_iff]at hy;obtain⟨t,ht,rfl⟩:=hy;refine e15 (Jt hg ht) λe he hto htt kv1 kv2=>Ap (fr'.old _ _ htt hto) λhtt' _=>?_;have hdrop:l.drop m=e::l.drop (m+1):=by
  refine e11 (AJ he) λhlt hee=>?_;exact rl hee.symm (List.drop_eq_getElem_cons hlt)
 rw[hdrop,Xa]at hR;refine⟨show 4<5 by decide,?_⟩;refine Ab λK2 nx2=>?_;show A4 _ _ _ _ _ [some (.ref b),some (.ref pl),some (.ref z),some (.ref sd),some (.ref t)] _;dsimp only[AP];refine Cl hM (by decide) (by decide) ib' rfl<|Fz htt'<|Lk G U.a ib' kv1.kn ?_;cases hpb:CK B e.1 with
 |false=>
  rw[hpb]at hR;rw[<-hR]at q;exact q o' H' ib' fr'
 |true=>
 obtain⟨k,hk⟩:∃k,e.1 = .str k:=⟨_,(G4 hpb).1⟩
 rw[hpb,if_pos rfl]at hR;rw[hk]at htt' hR;have hkk:Bh (.str k)=k:=rfl;rw[hkk]at hR;refine nx2 _ _<|Ab λK2 nx2=>Fz htt' ?_;dsimp only[Ad];show AA .In (.str k) (.ref sd) _ _
 (dsimp only[AS,FF];refine rl hs' ?_)
 show BF (.bool (Bb ((acc.map (·.1)).map λk=>(k,.bool true)) k).isSome) _ _
 (refine rl JC ?_;dsimp only[Az])
 by_cases hin:k∈acc.map (·.1)
 ·rw[if_pos hin]at hR;rw[<-hR]at q;exact rl (decide_eq_true hin) ⟨rfl,q o' H' ib' fr'⟩
 rw[if_neg hin]at hR;refine rl (decide_eq_false hin)<|nx2 _ _<|Ab λK2 nx2=>Fz htt' ?_;show match H' sd with|some (.dict _ _)=>_|_=>False
 refine rl hs' ⟨by refine rl (length_map ..) (rl (length_map ..) (rl (hlm ..) ?_));have:m<l.length:=(AJ he).1;exact le_trans (le_of_lt (lt_of_lt_of_le this hll)) (by decide),λep'=>nx2 _ _ ?_⟩;refine rl (Mh hin) ?_;have ib3:=ib'.upN hso' (.dict ep' ((acc.map (·.1)++[k]).map λk=>(k,.bool true)));have fr3:Fr1 o H o' (up H' sd (.dict ep' ((acc.map (·.1)++[k]).map λk=>(k,.bool true)))):=fr'.upF hsd0;have hz3:up H' sd (.dict ep' ((acc.map (·.1)++[k]).map λk=>(k,.bool true))) z=some (.list (us.map .ref)):=by exact rl (Ag hzs) hz'
 have hs3:up H' sd (.dict ep' ((acc.map (·.1)++[k]).map λk=>(k,.bool true))) sd=some (.dict ep' ((acc.map (·.1)++[k]).map λk=>(k,.bool true))):=Ah;have pu3:pairsU H o' (up H' sd (.dict ep' ((acc.map (·.1)++[k]).map λk=>(k,.bool true)))) us acc:=pu.keep λt v _ h1 h2=>⟨h1,by refine rl (Ag (λe=>by rw[e,hs']at h2;cases h2)) ?_;exact h2⟩
 generalize up H' sd (.dict ep' ((acc.map (·.1)++[k]).map λk=>(k,.bool true)))=H3 at ib3 fr3 hz3 hs3 pu3;refine Ap (fr3.old _ _ htt hto) λhtt3 _=>?_;rw[hk]at htt3;refine Ab λK2 nx2=>?_;dsimp only[AP,Ax,Ad];refine⟨?_,?_⟩
 ·show match H3 z with|some (.list _)=>_|some (.dict _ _)=>_|_=>False
  exact rl hz3 (.inl rfl)
 dsimp only[Al,AN,Au];refine Fz htt3 ?_;dsimp only[Al,A6,Au];refine Jm htt3<|Eq.mpr (An)<|Pj G U.a kv2.kn ?_;cases hab:DI e.2 with
 |false=>
  rw[hab]at hR;rw[<-hR]at q;exact q o' H3 ib3 fr3
 |true=>
 obtain⟨i,hi⟩:∃i,e.2 = .int i:=⟨_,O4 hab⟩
 rw[hab,if_pos rfl]at hR;rw[hi]at hR⊢;refine rl (if_pos rfl) (rl An ?_);intro t4 ht4;refine Ap (ib3.fresh ht4 (.tuple [.str k,.int i])) λib4 f4=>?_;have fr4:=fr3.trans f4;refine Ap (f4.old _ _ hz3 hzo') λhz4 hzo4=>Ap (f4.old _ _ hs3 hso') λhs4 hso4=>?_;have pu4:=pu3.keep (H0:=H) (H':=up H3 t4 (.tuple [.str k,.int i])) (o':=λa=>if a=t4 then none else o' a) λt v _ h1 h2=>⟨(f4.old _ _ h2 h1).2,(f4.old _ _ h2 h1).1⟩
 have pu5:=pu4.snoc (t:=t4) (e:=(k,i)) ⟨fr3.gr t4 ht4,if_pos rfl,Ah⟩;dsimp only[An];refine DJ hz4 (by refine rl (length_map ..) (rl (Lr pu ..) (rl (hlm ..) ?_));have:m<l.length:=(AJ he).1;exact DV this h2 (by decide)) (nx2 _ _ ?_);refine hI _ _ _ ⟨_,acc++[(k,i)],us++[t4],ep',some (.ref t),rfl,ib4.upN hzo4 _,fr4.upF hz,by refine rl Ah (rl map_append ?_);rfl,hzo4,by refine rl (Ag hzs.symm) (rl hs4 (rl (map_append (f:=λx:Str×Int=>x.1)) ?_));rfl,hso4,pu5.keep λt v _ h1 h2=>⟨h1,by refine rl (Ag (λe=>by rw[e,hz4]at h2;cases h2)) ?_;exact h2⟩,by refine rl length_append (rl hlm ?_);rfl,hR⟩
end
noncomputable def EN(B:Bk):List AV->List Str->Except String Unit
 |[],_=>.ok ()
 |v::r,seen=>if CE v then(if Bh v∈seen then .error "Twice" else if BA B (Bh v) then .error "Fallen" else EN B r (seen++[Bh v])) else .error "NoName"
theorem Xk{B:Bk}{v:AV}{r:List AV}{seen}:EN B (v::r) seen=if CE v then(if Bh v∈seen then .error "Twice" else if BA B (Bh v) then .error "Fallen" else EN B r (seen++[Bh v])) else .error "NoName":=rfl
noncomputable def IE(B:Bk)(k:Str)(l:List AV):Except String Unit:=if l.length<=8 then EN B l [k] else .error "NoRow"
theorem Ej{α:Type}{p:Prop}[Decidable p]{x:Except String α}{e}{r}(h:(if p then x else .error e) = .ok r):p/\x = .ok r:=by
 by_cases hp:p
 ·rw[if_pos hp]at h;exact⟨hp,h⟩
 ·rw[if_neg hp]at h;trivial
theorem Fg{α:Type}{p:Prop}[Decidable p]{x:Except String α}{e}{r}(h:(if p then .error e else x) = .ok r):¬ p/\x = .ok r:=by
 by_cases hp:p
 ·rw[if_pos hp]at h;trivial
 ·rw[if_neg hp]at h;exact⟨hp,h⟩
theorem TZ{B:Bk}{l:List AV}{seen}(h:EN B l seen = .ok ()):l=Ae (l.map Bh):=by
 induction l generalizing seen with
 |nil=>rfl
 |cons v r ih=>
  refine Ap (Ej h) λhn h=>?_;have:=ih (Fg (Fg h).2).2;rw[map_cons];show v::r = .str (Bh v)::Ae (r.map Bh);exact rl (Eq.symm (Iq hn)) (rl this.symm rfl)
inductive NJ(B:Bk)(o:Addr->Option Role)(H:Ac)(b f s p:Addr)(as:List Addr)(l:List AV)(R:Except String Unit)(v1 v2:Option AV)(sd:Addr)(m:Nat)(V':VV)(H':Ac):Prop
 |mk (o':Addr->Option Role) (seen:List Str) (ep:Nat) (pr:Option AV) (hV:V'=[some (.ref b),v1,v2,some (.ref sd),pr]) (ib:IsBook o' H' b f s p as B) (fr:Fr1 o H o' H') (hs:H' sd=some (.dict ep (seen.map λk=>(k,.bool true)))) (hso:o' sd=none) (hl:seen.length=m+1) (hR:EN B (l.drop m) seen=R):NJ B o H b f s p as l R v1 v2 sd m V' H'
section
variable(G:Gd c P)(U:Bt P)
include G U
set_option tactic.hygienic true in
theorem T0(hU:P.fns.lookup "Book.needs_of"=some BK.Zp)(ib:IsBook o H b f s p as B)(hp:H nl=some (.list l))(hpo:o nl=none)(hg:∀v∈l,Kv v)(hll:l.length<=1000)
  (q:match IE B kn l with| .ok _=>(∀z o' H',H z=none->o' z=none->H' z=some (.list l)->IsBook o' H' b f s p as B->Fr1 o H o' H'->Q (.ref z) H')| .error cl=>∀o' H',IsBook o' H' b f s p as B->Fr1 o H o' H'->E cl H'):CallOK c (n+3) true "Book.needs_of" [.ref b,.str kn,.ref nl] Q E H:=by
 refine G.call (F:=BK.Zp) hU rfl ?_;have hA:c.P.attrs=BK.attrs:=by exact rl G.hP (rl U.a.attrs rfl)
 have hgl:c.P.consts.lookup "MOST"=some (.int 8):=by refine rl G.hP (rl U.a.consts ?_);rfl
 unfold IE at q;refine Ab λK nx=>?_;dsimp only[A7,Ar,A1,Al,Ad];show Ay _ [] _ _ _ _
 (dsimp only[An,Fj];refine rl hp ?_)
 refine⟨by exact lt_of_le_of_lt (by assumption) (by decide),?_⟩;dsimp only[A_];show match c.P.consts.lookup "MOST" with|some v=>_|none=>False
 refine rl hgl ?_;show AA .Gt (.int l.length) (.int 8) _ _;dsimp only[Bw,Az];by_cases h2:l.length<=8
 case neg=>
  rw[if_neg h2]at q;exact rl (decide_eq_true (by omega)) ⟨rfl,q o H ib .refl⟩
 refine rl (decide_eq_false (by omega)) ?_;rw[if_pos h2]at q;refine nx _ _<|Ab λK nx=>?_;intro sd ep0 hsd;refine⟨show 3<5 by decide,nx _ _ ?_⟩;refine Ap (ib.fresh hsd (.dict ep0 [(kn,.bool true)])) λib2 fr2=>Ab λK nx=>?_;dsimp only[BX,Ad];refine⟨rfl,?_⟩;show Bq _ _ (.ref nl) _ _;refine Ap (fr2.old _ _ hp hpo) λhp2 hpo2=>CD (xs:=l) (Bu hp2) (NJ B o H b f s p as l (EN B l [kn]) (some (.str kn)) (some (.ref nl)) sd) ⟨_,[kn],ep0,none,rfl,ib2,fr2,Ah,if_pos rfl,rfl,rfl⟩ ?_;rintro I hI m V' H' ⟨o',seen,ep,pr,rfl,ib',fr',hs',hso',hlm,hR⟩;refine Ap (fr'.old _ _ hp hpo) λhp' hpo'=>⟨by show H' nl=_;exact rl hp' (rl hp2 rfl),λhm=>?_,λv hv=>?_⟩
 ·rw[hm,drop_length]at hR;rw[<-hR]at q;refine nx _ _<|Ab λK nx=>?_;dsimp only[Bp,A1,Al,Ad];show Ay _ [] _ _ _ _
  (dsimp only[An,Gc];refine rl hp' ?_)
  exact⟨le_trans hll (by decide),λz hz=>Ap (ib'.fresh hz (.list l)) λib3 f3=>q z _ _ (fr'.gr z hz) (if_pos rfl) Ah ib3 (fr'.trans f3)⟩
 have hdrop:l.drop m=v::l.drop (m+1):=by
  refine e11 (AJ hv) λhlt hee=>?_;exact rl hee.symm (List.drop_eq_getElem_cons hlt)
 have hmlt:m<l.length:=(AJ hv).1;rw[hdrop,Xk]at hR;refine⟨show 4<5 by decide,?_⟩;refine Ab λK2 nx2=>?_;show A4 _ _ _ _ _ [some (.ref b),some (.str kn),some (.ref nl),some (.ref sd),some v] _;refine Mk G U.a (hg v (mem_of_getElem? hv)).kn ?_;cases hn:CE v with
 |false=>
  rw[hn]at hR;rw[<-hR]at q;exact q o' H' ib' fr'
 |true=>
 obtain⟨k,rfl⟩:∃k,v = .str k:=⟨_,Iq hn⟩
 rw[hn,if_pos rfl]at hR;have hkk:Bh (.str k)=k:=rfl;rw[hkk]at hR;refine nx2 _ _<|Ab λK2 nx2=>Eq.mpr (A7) (Eq.mpr (Ar) (Eq.mpr (Ad) ?_));dsimp only[Ad];show AA .In (.str k) (.ref sd) _ _
 (dsimp only[AS,FF];refine rl hs' ?_)
 show BF (.bool (Bb (seen.map λk=>(k,.bool true)) k).isSome) _ _
 (refine rl JC ?_;dsimp only[Az])
 by_cases hin:k∈seen
 ·rw[if_pos hin]at hR;rw[<-hR]at q;exact rl (decide_eq_true hin) ⟨rfl,q o' H' ib' fr'⟩
 rw[if_neg hin]at hR;refine rl (decide_eq_false hin)<|nx2 _ _<|Ab λK2 nx2=>Eq.mpr (At) (Eq.mpr (Aq) (Eq.mpr (AC) (Eq.mpr (Ad) ?_)));show match H' sd with|some (.dict _ _)=>_|_=>False
 refine rl hs' ⟨by refine rl (length_map ..) (rl (hlm ..) ?_);exact le_trans (le_trans (Nat.succ_le_of_lt hmlt) hll) (by decide),λep'=>nx2 _ _ ?_⟩;refine rl (Mh hin) ?_;have ib3:=ib'.upN hso' (.dict ep' ((seen++[k]).map λk=>(k,.bool true)));have fr3:Fr1 o H o' (up H' sd (.dict ep' ((seen++[k]).map λk=>(k,.bool true)))):=fr'.upF hsd;have hs3:up H' sd (.dict ep' ((seen++[k]).map λk=>(k,.bool true))) sd=some (.dict ep' ((seen++[k]).map λk=>(k,.bool true))):=Ah;generalize up H' sd (.dict ep' ((seen++[k]).map λk=>(k,.bool true)))=H3 at ib3 fr3 hs3;refine Ab λK2 nx2=>?_;dsimp only[A7,Am,AQ,Ar,Ad];refine EF hA ib3 rfl ?_;dsimp only[AS];refine JD ib3 ?_;have nextI:BA B k=false->I (m+1) [some (.ref b),some (.str kn),some (.ref nl),some (.ref sd),some (.str k)] H3:=λh=>hI _ _ _ ⟨o',seen++[k],ep',_,rfl,ib3,fr3,hs3,hso',by refine rl length_append (rl hlm ?_);rfl,by rw[if_neg (by refine rl h ?_;decide)]at hR;exact hR⟩;cases e:AU B.pacts k with
 |none=>exact nx2 _ _ (nextI (by unfold BA;exact rl e rfl))
 |some w=>
 dsimp only[AT,Ar];refine e12 (G7 ib3.ps (D5 (j:=w.1) (q:=w.2) e).1) λa' ha' ip'=>?_;rw[zero_add]at ip';refine OL hA ip' (λQ' h=>?_) ?_
 ·dsimp only[Au];refine EF hA ib3 rfl ?_;exact J0 ib3 (j:=w.1) (x:=w.2) e λa'' h'' _=>by rw[ha']at h'';obtain rfl:=Ak h'';exact h
 (dsimp only[Aq,CF,Az];refine rl Me ?_)
 have hfb:BA B k=(w.2.state==.fln):=by unfold BA;exact rl e rfl
 cases hw:w.2.state==Sta.fln with
 |false=>exact nx2 _ _ (nextI (hfb.trans hw))
 |true=>
  rw[if_pos (hfb.trans hw)]at hR;rw[<-hR]at q;exact⟨rfl,q o' H3 ib3 fr3⟩
omit U in
theorem Vh(hU:P.fns.lookup "Pact.__init__"=some BK.Zl)(hA:c.P.attrs=BK.attrs)(h:H a=some (.inst "Pact" []))
  (q:∀w H',H w=none->H' a=some (.inst "Pact" [("name",.str k),("parts",.ref pa),("gains",.ref ga),("needs",.ref ne),("last",.int i),("state",.str (ofString "open")),("inside",.ref w)])->H' w=some (.dict 0 [])->(∀y,y≠a->y≠w->H' y=H y)->Q .none H'):CallOK c (n+1) true "Pact.__init__" [.ref a,.str k,.ref pa,.ref ga,.ref ne,.int i] Q E H:=by
 refine G.call (F:=BK.Zl) hU rfl ?_;have hC:∀n,BK.attrs.contains ("Pact",n)=true->c.P.attrs.contains ("Pact",n)=true:=λn h=>by rw[hA];exact h
 refine Ab λK nx=>?_;dsimp only[At,Ad];refine B9 rfl (hC _ rfl) h (by exact(show 0<=100 by decide)) (nx _ _ (Ab λK nx=>?_));dsimp only[At,Ad];refine B9 rfl (hC _ rfl) Ah (by exact(show 1<=100 by decide)) (nx _ _ (Ab λK nx=>?_));dsimp only[At,Ad];refine B9 rfl (hC _ rfl) Ah (by exact(show 2<=100 by decide)) (nx _ _ (Ab λK nx=>?_));dsimp only[At,Ad];refine B9 rfl (hC _ rfl) Ah (by exact(show 3<=100 by decide)) (nx _ _ (Ab λK nx=>?_));dsimp only[At,Ad];refine B9 rfl (hC _ rfl) Ah (by exact(show 4<=100 by decide)) (nx _ _ (Ab λK nx=>?_));dsimp only[At,Aq];refine B9 rfl (hC _ rfl) Ah (by exact(show 5<=100 by decide)) (nx _ _ (Ab λK nx=>?_));intro w hw;have haw:a≠w:=DP hw;exact B9 rfl (hC _ rfl) (by exact rl (Ag haw) (rl Ah rfl)) (by exact(show 6<=100 by decide)) (nx _ _ (q w _ (Cm (Cm (Cm (Cm (Cm (Cm hw)))))) Ah (by exact rl (Ag haw.symm) (rl Ah rfl)) λy h1 h2=>rl (Ag h1) (rl (Ag h2) (rl (Ag h1) (rl (Ag h1) (rl (Ag h1) (rl (Ag h1) (rl (Ag h1) (rl (Ag h1) rfl)))))))))
end
noncomputable def Bj(l:List (Str×Int)):Int:=(l.map (·.2)).sum
noncomputable def Rx(B:Bk)(v:AV)(nl:List AV)(last:AV)(ps gs:List (Str×Int))(_:Unit):Except String Bk:=if GS last=true/\¬ FL last<B.day then .ok {B with pacts:=B.pacts++[⟨Bh v,ps,gs,nl.map Bh,FL last,.opn,[]⟩]} else .error "NoDay"
noncomputable def Rv(B:Bk)(v:AV)(nl:List AV)(last:AV)(ps gs:List (Str×Int)):Except String Bk:=if Bj ps≠Bj gs then .error "Uneven" else(IE B (Bh v) nl).bind (Rx B v nl last ps gs)
noncomputable def Ru(B:Bk)(v:AV)(gl:List (AV×AV))(nl:List AV)(last:AV)(ps:List (Str×Int)):Except String Bk:=(Ei B gl).bind (Rv B v nl last ps)
noncomputable def II(B:Bk)(v:AV)(pl gl:List (AV×AV))(nl:List AV)(last:AV):Except String Bk:=
 if CE v then(if(AU B.pacts (Bh v)).isSome then .error "Taken" else(Ei B pl).bind (Ru B v gl nl last)) else .error "NoName"
theorem MW{α β:Type}{x:Except String α}{f:α->Except String β}{r:β}(h:x.bind f = .ok r):∃a,x = .ok a/\f a = .ok r:=by
 cases x with
 |error=>cases h
 |ok a=>exact⟨a,rfl,h⟩
noncomputable def EC(H:Ac):AV->Option AV
 | .ref t=>(match H t with|some (.tuple [_,w])=>some w|_=>none)
 |_=>none
theorem J4(h:H t=some (.tuple [u,w])):EC H (.ref t)=some w:=by
 show(match H t with|some (.tuple [_,w])=>some w|_=>none)=_;exact rl h rfl
theorem Fr1.ext(h:Ext H H'):Fr1 o H o H':=⟨λa v e k=>⟨h a v e,k⟩,λa e=>h.none e⟩
theorem IsBook.ext(ib:IsBook o H b f s p as B)(h:Ext H H'):IsBook o H' b f s p as B:=ib.congr λa r v _ hr hv _=>⟨hr,h a v hv⟩
theorem pairsU.ext(h:pairsU H0 o H ts l)(hE:Ext H H'):pairsU H0 o H' ts l:=h.keep λt v _ h1 h2=>⟨h1,hE _ _ h2⟩
theorem pairsG.fr(f:Fr1 o H o' H')(h:pairsG o H us l):pairsG o' H' us l:=by
 induction us generalizing l with
 |nil=>cases l with
  |nil=>trivial
  |cons=>exact h.elim
 |cons t r ih=>cases l with
  |nil=>exact h.elim
  |cons g gs=>exact⟨⟨(f.old _ _ h.1.2.1 h.1.1).2,(f.old _ _ h.1.2.1 h.1.1).1,h.1.2.2⟩,ih h.2⟩
theorem pairsU.gr(g:∀y,H' y=none->H y=none)(h:pairsU H' o H0 us l):pairsU H o H0 us l:=by
 induction us generalizing l with
 |nil=>cases l with
  |nil=>trivial
  |cons=>exact h.elim
 |cons t r ih=>cases l with
  |nil=>exact h.elim
  |cons e l=>exact⟨⟨g _ h.1.1,h.1.2⟩,ih h.2⟩
theorem NU:∀{ts:List Addr} {l:List (Str×Int)},pairsU H0 o H ts l->((ts.map AV.ref).filterMap (EC H))=(l.map (·.2)).map AV.int
 |[],[],_=>rfl
 |t::ts,e::l,h=>by
  rw[map_cons,filterMap_cons,map_cons,map_cons,<-NU h.2];exact rl (J4 h.1.2.2) rfl
 |[],_::_,h=>h.elim
 |_::_,[],h=>h.elim
theorem Oe:∀{ts:List Addr} {l:List (Str×Int)} {y:AV},pairsU H0 o H ts l->y∈ts.map AV.ref->∃t k i,y = .ref t/\H t=some (.tuple [.str k,.int i])
 |t::ts,e::l,y,h,hy=>by
  rcases mem_cons.mp hy with rfl|hy
  ·exact⟨t,_,_,rfl,h.1.2.2⟩
  ·exact Oe h.2 hy
 |[],[],_,_,hy=>by cases hy
 |[],_::_,_,h,_=>h.elim
 |_::_,[],_,h,_=>h.elim
theorem F_:∀{ts:List Addr} {l:List (Str×Int)} {t:Addr},pairsU H0 o H ts l->t∈ts->H0 t=none/\o t=none/\∃v,H t=some (.tuple v)
 |t::ts,e::l,y,h,hy=>by
  rcases mem_cons.mp hy with rfl|hy
  ·exact⟨h.1.1,h.1.2.1,_,h.1.2.2⟩
  ·exact F_ h.2 hy
 |[],[],_,_,hy=>by cases hy
 |[],_::_,_,h,_=>h.elim
 |_::_,[],_,h,_=>h.elim
theorem pairsU.own(hk:∀t v,t∈ts->H t=some (.tuple v)->o' t=some .data/\H' t=some (.tuple v))(h:pairsU H0 o H ts l):pairsAV o' H' ts l:=by
 induction ts generalizing l with
 |nil=>cases l with
  |nil=>trivial
  |cons=>exact h.elim
 |cons t ts ih=>cases l with
  |nil=>exact h.elim
  |cons e l=>
   have:=hk t _ mem_cons_self h.1.2.2;exact⟨this.1,this.2,ih (λt v ht=>hk t v (mem_cons_of_mem _ ht)) h.2⟩
theorem NW:∀{i:Nat} {as:List Addr} {ps:List Pc} {a:Addr} {x:Pc},pactsAt o H i as ps->IsPact o H (i+ps.length) a x->pactsAt o H i (as++[a]) (ps++[x])/\dP (ps++[x]) (as++[a])=dP ps as++[(x.name,.ref a)]
 |_,[],[],a,x,_,hx=>⟨⟨hx,trivial⟩,rfl⟩
 |i,a'::as,q::qs,a,x,h,hx=>by
  obtain⟨h1,h2⟩:=NW (i:=i+1) (a:=a) (x:=x) h.2 (by refine rl (show i+1+qs.length=i+(q::qs).length by simp;lia) ?_;exact hx);exact⟨⟨h.1,h1⟩,by show _::dP (qs++[x]) (as++[a])=_;refine rl h2 ?_;rfl⟩
 |_,[],_::_,_,_,h,_=>h.elim
 |_,_::_,[],_,_,h,_=>h.elim
section
variable(G:Gd c P)(U:Bt P)
theorem O9(hmd:g.md=true)(hl9:V.length=9)(hV:V[i]? =some (some (.ref z)))(hz:H z=some (.list (ts.map .ref)))(hu:pairsU H0 o H ts l)(hl:l.length<=1000)
  (q:∀H',Ext H H'->Q (.int (Bj l)) H'):Aj g (.prim .sum [.comp (.sub (.var 9) (.lit (.int 1))) 1 false (.var i) none]) V Q E H:=by
 (dsimp only[A1,Al,Bl,Ad];refine rl hV ?_)
 refine⟨hmd,Ib (xs:=ts.map .ref) (Bu hz) (rl (length_map ..) (rl (Lr hu ..) (le_trans hl (by decide)))) (EC H) (λy hy H' hE nx hnx=>?_) λa H' hE ha=>?_⟩
 ·refine e32 (Oe hu hy) λt k w z03 ht=>?_;obtain rfl:=z03
  (refine Eq.mpr (if_neg (by decide)) ?_;dsimp only[CR];refine Eq.mpr (if_pos rfl) ?_;dsimp only[Au,Ad];refine rl (getElem?_append_right (by lia)) (rl hl9 ?_))
  refine Jm (hE _ _ ht) ?_;have:=hnx H' .refl;rw[J4 ht]at this;exact this
 ·(dsimp only[An,IC];refine rl hmd (rl Ah ?_))
  refine⟨rfl,l.map (·.2),NU hu,?_⟩;exact q _ (hE.new ha)
theorem TR(h:EM B l acc = .ok r):r.length=acc.length+l.length:=by
 induction l generalizing acc with
 |nil=>cases h;rfl
 |cons e l ih=>
  have:=ih (Ej (Fg (Ej h).2).2).2;rw[this,length_append,Nat.add_assoc];exact rl (Nat.add_comm 1 ..) rfl
set_option tactic.hygienic true in
theorem Of(h:Ei B l = .ok r):r.length<=1000:=by
 unfold Ei at h;split at h
 ·rename_i hh;refine rl (TR h) ?_;simp;lia
 ·trivial
theorem TM(ib:IsBook o H b f s p as B)(fr:Fr1 o0 H0 o H)(nza:H0 za=none)(nzb:H0 zb=none)(nzn:H0 zn=none)(pa:pairsU H0 o H ta ps)(pb:pairsU H0 o H tb gs)(ha:H a=none)(hw:H w=none)(haw:a≠w)
  (hia:H6 a=some (.inst "Pact" [("name",.str k),("parts",.ref za),("gains",.ref zb),("needs",.ref zn),("last",.int i),("state",.str (ofString "open")),("inside",.ref w)]))(hiw:H6 w=some (.dict 0 []))(hold:∀y v,H y=some v->H6 y=some v)
  (hza:H za=some (.list (ta.map .ref)))(hzao:o za=none)(hzb:H zb=some (.list (tb.map .ref)))(hzbo:o zb=none)(hzn:H zn=some (.list (Ae ns)))(hzno:o zn=none)(ep:Nat) :
  ∃o':Addr->Option Role,IsBook o' (up H6 p (.dict ep (dP B.pacts as++[(k,.ref a)]))) b f s p (as++[a]) {B with pacts:=B.pacts++[⟨k,ps,gs,ns,i,.opn,[]⟩]}/\Fr1 o0 H0 o' (up H6 p (.dict ep (dP B.pacts as++[(k,.ref a)]))):=by
 refine e11 ib.hf λe1 hf=>e11 ib.hs λe2 hs=>e11 ib.hp λe3 hp=>?_;have na:∀{y v},H y=some v->y≠a:=λh e=>by rw[e,ha]at h;trivial
 have nw:∀{y v},H y=some v->y≠w:=λh e=>by rw[e,hw]at h;trivial
 have hd:∃o':Addr->Option Role,o' a=some (.pact B.pacts.length)/\o' w=some (.inside B.pacts.length)/\(∀y v,H y=some v->(y=za\/y=zb\/y=zn\/y∈ta\/y∈tb)->o' y=some .data)/\(∀y v,H y=some v->¬ (y=za\/y=zb\/y=zn\/y∈ta\/y∈tb)->o' y=o y):=by
  refine⟨λy=>if y=a then some (.pact B.pacts.length) else if y=w then some (.inside B.pacts.length) else if y=za\/y=zb\/y=zn\/y∈ta\/y∈tb then some .data else o y,if_pos rfl,(if_neg haw.symm).trans (if_pos rfl),λy v h1 h2=>?_,λy v h1 h2=>?_⟩
  ·exact(if_neg (na h1)).trans ((if_neg (nw h1)).trans (if_pos h2))
  ·exact(if_neg (na h1)).trans ((if_neg (nw h1)).trans (if_neg h2))
 refine e14 hd λo' oa ow od oo=>?_;have nset:∀{y v r},H y=some v->o y=some r->¬ (y=za\/y=zb\/y=zn\/y∈ta\/y∈tb):=λ{y v r} h1 h2 h=>by
  rcases h with h|h|h|h|h
  ·rw[h,hzao]at h2;trivial
  ·rw[h,hzbo]at h2;trivial
  ·rw[h,hzno]at h2;trivial
  ·rw[(F_ pa h).2.1]at h2;trivial
  ·rw[(F_ pb h).2.1]at h2;trivial
 have keep:∀{y v r},H y=some v->o y=some r->y≠p->o' y=some r/\up H6 p (.dict ep (dP B.pacts as++[(k,.ref a)])) y=some v:=λ{y v r} h1 h2 h3=>⟨(oo y v h1 (nset h1 h2)).trans h2,by rw[Ag h3];exact hold y v h1⟩
 have np:∀{y v},H y=some v->o y=none->y≠p:=λh1 h2 e=>by rw[e,ib.op]at h2;trivial
 have kd:∀{y v},H y=some v->o y=none->(y=za\/y=zb\/y=zn\/y∈ta\/y∈tb)->o' y=some .data/\up H6 p (.dict ep (dP B.pacts as++[(k,.ref a)])) y=some v:=λ{y v} h1 h2 h3=>⟨od y v h1 h3,by rw[Ag (np h1 h2)];exact hold y v h1⟩
 have pap:p≠a:=na hp;have pwp:p≠w:=nw hp;have ip:IsPact o' (up H6 p (.dict ep (dP B.pacts as++[(k,.ref a)]))) (0+B.pacts.length) a ⟨k,ps,gs,ns,i,.opn,[]⟩:=by
  rw[zero_add];refine⟨oa,za,zb,zn,w,0,by rw[Ag pap.symm];exact hia,?_,?_,?_,?_,ow,by rw[Ag pwp.symm];exact hiw⟩
  ·exact⟨(kd hza hzao (.inl rfl)).1,ta,(kd hza hzao (.inl rfl)).2,pa.own λt v ht h=>kd h (F_ pa ht).2.1 (.inr (.inr (.inr (.inl ht))))⟩
  ·exact⟨(kd hzb hzbo (.inr (.inl rfl))).1,tb,(kd hzb hzbo (.inr (.inl rfl))).2,pb.own λt v ht h=>kd h (F_ pb ht).2.1 (.inr (.inr (.inr (.inr ht))))⟩
  ·exact(kd hzn hzno (.inr (.inr (.inl rfl)))).1
  ·exact(kd hzn hzno (.inr (.inr (.inl rfl)))).2
 have nb:b≠p:=CS ib.ob ib.op (by intro h;trivial);have nf:f≠p:=CS ib.of ib.op (by intro h;trivial);have ns':s≠p:=CS ib.os ib.op (by intro h;trivial);have psk:pactsAt o' (up H6 p (.dict ep (dP B.pacts as++[(k,.ref a)]))) 0 as B.pacts:=ib.ps.congr (P:=Role.isP) (λy r v hr h1 h2 _=>keep h2 h1 (λe=>by rw[e,ib.op]at h1;obtain rfl:=Ak h1;exact hr)) trivial λ_ _=>⟨trivial,trivial⟩
 refine Ap (NW psk ip) λp1 p2=>⟨o',⟨(keep ib.hb ib.ob nb).1,(keep hf ib.of nf).1,(keep hs ib.os ns').1,(oo p _ hp (nset hp ib.op)).trans ib.op,(keep ib.hb ib.ob nb).2,⟨e1,(keep hf ib.of nf).2⟩,⟨e2,(keep hs ib.os ns').2⟩,⟨ep,?_⟩,p1⟩,⟨λy v h1 h2=>?_,λy h=>?_⟩⟩
 ·show up H6 p _ p=some (.dict ep (dP (B.pacts++[_]) (as++[a])));exact rl Ah (rl p2 rfl)
 ·refine Ap (fr.old y v h1 h2) λh3 h4=>⟨by rw[Ag (np h3 h4)];exact hold y v h3,(oo y v h3 λh=>?_).trans h4⟩
  rcases h with h|h|h|h|h
  ·rw[h,nza]at h1;trivial
  ·rw[h,nzb]at h1;trivial
  ·rw[h,nzn]at h1;trivial
  ·rw[(F_ pa h).1]at h1;trivial
  ·rw[(F_ pb h).1]at h1;trivial
 ·refine fr.gr y ?_;cases hy:H y with
  |none=>rfl
  |some v=>have:=Cm h;rw[hold y v hy]at this;trivial
include G U
theorem Vv(hU:P.fns.lookup "Book.tell"=some BK.Zu)(hU1:P.fns.lookup "Book.pairs_of"=some BK.Zo)(hU2:P.fns.lookup "Book.needs_of"=some BK.Zp)(hU3:P.fns.lookup "Pact.__init__"=some BK.Zl)(hcl:c.P.classes.contains "Pact"=true)
  (ib:IsBook o H b f s p as B)(ok:BkOK B)(kv:Kv v)(kl:Kv last)(hp:H pl=some (.list (ts.map .ref)))(hpo:o pl=none)(hpg:pairsG o H ts pL)(hg:H gl=some (.list (us.map .ref)))(hgo:o gl=none)(hgg:pairsG o H us gL)(hn:H nl=some (.list nL))(hno:o nl=none)(hng:∀v∈nL,Kv v)
  (l1:pL.length<=1000)(l2:gL.length<=1000)(l3:nL.length<=1000)
  (q:Ends (II B v pL gL nL last) (λB'=>∀o' H' as',IsBook o' H' b f s p as' B'->Fr1 o H o' H'->Q .none H') (λcl=>∀o' H',IsBook o' H' b f s p as B->Fr1 o H o' H'->E cl H')):CallOK c (n+4) true "Book.tell" [.ref b,v,.ref pl,.ref gl,.ref nl,last] Q E H:=by
 refine G.call (F:=BK.Zu) hU rfl ?_;have hA:c.P.attrs=BK.attrs:=by exact rl G.hP (rl U.a.attrs rfl)
 have hM:c.P.meths=BK.meths:=by exact rl G.hP (rl U.a.meths rfl)
 refine q.gen λA F qA qF q=>Ab λK nx=>Mk G U.a kv.kn ?_;cases hnb:CE v with
 |false=>exact qF _ (q.f (by refine rl hnb ?_;decide)) o H ib .refl
 |true=>
 obtain⟨k,rfl⟩:∃k,v = .str k:=⟨_,Iq hnb⟩
 replace q:=q.t hnb;refine nx _ _<|Ab λK nx=>?_;dsimp only[A7,Ar,Ad];refine EF hA ib rfl ?_;dsimp only[AS];refine JD ib ?_;cases e:AU B.pacts k with
 |some w=>exact⟨rfl,qF _ (q.t (congrArg Option.isSome e)) o H ib .refl⟩
 |none=>
 replace q:=q.f λh=>Bool.false_ne_true ((congrArg Option.isSome e).symm.trans h);refine nx _ _<|Ab λK nx=>?_;dsimp only[At];refine Cl hM (by decide) (by decide) ib rfl<|NT G U hU1 ib hp hpo hpg l1 ?_;cases e1:Ei B pL with
 |error cl=>exact qF _ (q.er e1)
 |ok ps=>
 replace q:Ends (Ru _ _ _ _ _ _) _ _:=q.ok e1;intro za ta o1 H1 hza hzo1 hz1 pu1 ib1 f1;refine⟨show 6<9 by decide,nx _ _ ?_⟩;refine Ab λK nx=>?_;dsimp only[At];refine Cl hM (by decide) (by decide) ib1 rfl<|Ap (f1.old _ _ hg hgo) λhg1 hgo1=>?_;have hgg1:=hgg.fr f1;refine NT G U hU1 ib1 hg1 hgo1 hgg1 l2 ?_;cases e2:Ei B gL with
 |error cl=>exact λo' H' ib' f'=>qF _ (q.er e2) o' H' ib' (f1.trans f')
 |ok gs=>
 replace q:Ends (Rv _ _ _ _ _ _) _ _:=q.ok e2;intro zb tb o2 H2 hzb hzo2 hz2 pu2 ib2 f2;refine⟨show 7<9 by decide,nx _ _ ?_⟩;refine Ap (f2.old _ _ hz1 hzo1) λhz1' hzo1'=>?_;have pu1':pairsU H o2 H2 ta ps:=pu1.keep λt v _ h1 h2=>⟨(f2.old _ _ h2 h1).2,(f2.old _ _ h2 h1).1⟩
 have pu2':=pu2.gr f1.gr;have fr2:=f1.trans f2;have lps:ps.length<=1000:=Of e1;have lgs:gs.length<=1000:=Of e2;refine Ab λK nx=>?_;show A4 _ _ _ _ _ [some (.ref b),some (.str k),some (.ref pl),some (.ref gl),some (.ref nl),some last,some (.ref za),some (.ref zb),none] _;dsimp only[A7,Ar];refine O9 rfl rfl rfl hz1' pu1' lps λH3 hE3=>O9 rfl rfl rfl (hE3 _ _ hz2) (pu2'.ext hE3) lgs λH4 hE4=>?_;dsimp only[Ce,Az];have hE:=hE3.trans hE4;have ib4:=ib2.ext hE;have fr4:Fr1 o H o2 H4:=fr2.trans (.ext hE);have pa4':=pu1'.ext hE;have pb4':=pu2'.ext hE;have hza4:=hE _ _ hz1';have hzb4:=hE _ _ hz2;by_cases hsum:Bj ps=Bj gs
 case neg=>
  exact Eq.mpr (if_pos (by simpa using hsum)) ⟨rfl,qF _ (q.t hsum) o2 H4 ib4 fr4⟩
 replace q:=q.f λh=>h hsum;refine Eq.mpr (if_neg (by simpa using hsum))<|nx _ _<|Ab λK nx=>?_;dsimp only[At];refine Cl hM (by decide) (by decide) ib4 rfl<|Eq.mpr (Al) (Eq.mpr (Ad) (Ap (fr4.old _ _ hn hno) λhn4 hno4=>T0 G U hU2 ib4 hn4 hno4 hng l3 ?_));cases e3:IE B k nL with
 |error cl=>exact λo' H' ib' f'=>qF _ (q.er e3) o' H' ib' (fr4.trans f')
 |ok u=>
 replace q:Ends (Rx _ _ _ _ _ _ _) _ _:=q.ok e3;intro zn o5 H5 hzn hzno hzn5 ib5 f5;have fr5:=fr4.trans f5;refine Ap (f5.old _ _ hza4 hzo1') λhza5 hzao5=>Ap (f5.old _ _ hzb4 hzo2) λhzb5 hzbo5=>?_;have pa5:pairsU H o5 H5 ta ps:=pa4'.keep λt v _ h1 h2=>⟨(f5.old _ _ h2 h1).2,(f5.old _ _ h2 h1).1⟩
 have pb5:pairsU H o5 H5 tb gs:=pb4'.keep λt v _ h1 h2=>⟨(f5.old _ _ h2 h1).2,(f5.old _ _ h2 h1).1⟩
 refine⟨show 8<9 by decide,nx _ _ ?_⟩;have hnt:nL=Ae (nL.map Bh):=by
  unfold IE at e3;split at e3
  ·exact TZ e3
  ·trivial
 refine Ab λK nx=>?_;show A4 _ _ _ _ _ [some (.ref b),some (.str k),some (.ref pl),some (.ref gl),some (.ref nl),some last,some (.ref za),some (.ref zb),some (.ref zn)] _;dsimp only[A7,Am,AQ,AF,A6,Al,Ad];refine Lp G U.a kl.kn ?_;cases hwl:GS last with
 |false=>exact⟨rfl,qF _ (q.f λh=>Bool.false_ne_true (hwl.symm.trans h.1)) o5 H5 ib5 fr5⟩
 |true=>
 obtain⟨i,rfl⟩:∃i,last = .int i:=by cases last<;>first|exact⟨_,rfl⟩|cases hwl
 (dsimp only[Az];refine Eq.mpr (if_pos (show(!true)=false from rfl)) ?_;dsimp only[AT,Ar,Ad])
 refine MB hA ib5 rfl ?_;dsimp only[Bc,Az];by_cases hd:i<B.day
 ·exact rl (decide_eq_true hd) ⟨rfl,qF _ (q.f λh=>h.2 hd) o5 H5 ib5 fr5⟩
 replace q:=q.t ⟨hwl,hd⟩;refine rl (decide_eq_false hd)<|nx _ _<|Ab λK nx=>?_;dsimp only[At,BP];intro a ha;refine Vh G hU3 hA Ah λw H6 hw hia hiw hrest=>⟨rfl,?_⟩
 have haw:a≠w:=DP hw;have hw5:H5 w=none:=Cm hw;have hold:∀y v,H5 y=some v->H6 y=some v:=λy v h=>by
  have h1:y≠a:=λz=>by rw[z,ha]at h;trivial
  have h2:y≠w:=λz=>by rw[z,hw5]at h;trivial
  exact rl (hrest y h1 h2) (rl (Ag h1) h)
 refine e11 ib5.hp λep hpd=>?_;have hl5:=GK ib5.ps;dsimp only[AC];have ib6:IsBook o5 H6 b f s p as B:=ib5.ext hold;refine EF hA ib6 rfl ?_;show match H6 p with|some (.dict _ _)=>_|_=>False
 refine rl (hold _ _ hpd) ⟨by have h1:=congrArg List.length hl5.1;rw[length_map,length_map,hl5.2]at h1;refine rl h1 ?_;exact le_trans ok.len (by decide),λep'=>nx _ _ ?_⟩;have hnone:Bb (dP B.pacts as) k=none:=by refine rl (Ll ib5.ps) (rl e ?_);rfl
 have hput:AI (dP B.pacts as) k (.ref a)=dP B.pacts as++[(k,.ref a)]:=by unfold AI;refine rl hnone ?_;rfl
 exact rl hput<|e12 (TM ib5 fr5 hza (f1.gr _ hzb) (fr4.gr _ hzn) pa5 pb5 ha hw5 haw hia hiw hold hza5 hzao5 hzb5 hzbo5 (hnt▸hzn5) hzno ep') λo' ib' fr'=>qA _ q o' _ (as++[a]) ib' fr'
end
noncomputable def Gm(ks:List Str)(k:Str):List Str:=if k∈ks then ks else ks++[k]
theorem GD:(Bb es k).isSome=decide (k∈es.map (·.1)):=by
 unfold Bb;rw[isSome_map,Bool.eq_iff_iff,List.find?_isSome];simp
theorem Pn:(AI es k v).map (·.1)=Gm (es.map (·.1)) k:=by
 unfold AI Gm;refine rl GD ?_;by_cases h:k∈es.map (·.1)
 ·simp only[h,decide_true,if_true,map_map];apply map_congr_left;intro e _;simp only[Function.comp];split<;>simp_all
 ·simp only[h,decide_false,if_false,Bool.false_eq_true,map_append,map_cons,List.map_nil]
theorem JL:(AI es k v).length<=es.length+1:=by
 unfold AI;split<;>simp
set_option tactic.hygienic true in
theorem Ou:x∈Gm ks k↔x∈ks\/x=k:=by
 unfold Gm;split
 ·constructor
  ·exact .inl
  ·rintro(h|rfl)<;>assumption
 ·simp
noncomputable def GZ(l:List Str):List Str:=l.foldl Gm []
theorem T3:GZ (l++[x])=Gm (GZ l) x:=by simp[GZ]
theorem UH{l:List Str}:∀{ks:List Str} {x:Str},x∈l.foldl Gm ks↔x∈ks\/x∈l:=by
 induction l with
 |nil=>simp
 |cons t r ih=>
  intro ks x;rw[List.foldl_cons,ih,Ou,mem_cons];constructor
  ·rintro((h|h)|h)
   ·exact .inl h
   ·exact .inr (.inl h)
   ·exact .inr (.inr h)
  ·rintro(h|h|h)
   ·exact .inl (.inl h)
   ·exact .inl (.inr h)
   ·exact .inr h
theorem Ua{l:List Str}:x∈GZ l↔x∈l:=by unfold GZ;rw[UH];simp
section
variable(G:Gd c P)
def TabIs(H:Ac)(z:Addr)(l:List Str):Prop:=∃ep es,H z=some (.dict ep es)/\es.length<=l.length/\∀k,(Bb es k).isSome=decide (k∈l)
theorem TabIs.ext(h:TabIs H z l)(e:Ext H H'):TabIs H' z l:=by
 refine e22 h λep es h1 h2=>?_;exact⟨ep,es,e _ _ h1,h2⟩
theorem GG(h:TabIs H a l)(q:Q (.bool (decide (x∈l) != no)) H):win no (.str x) (.ref a) Q H:=by
 exact e23 h λep es h1 h2 h3=>Ik h1<|rl (h3 ..) q
include G in
theorem Il(hf:P.fns.lookup "table_of"=some BK.Zd)(ha:H a=some (.list (Ae l)))(hl:l.length<=1000)
  (q:∀z H',Ext H H'->H z=none->TabIs H' z l->Q (.ref z) H'):CallOK c (n+1) true "table_of" [.ref a] Q E H:=by
 refine G.call (F:=BK.Zd) hf rfl<|Ab λK nx=>?_;intro z hz;refine⟨show 1<3 by decide,nx _ _ ?_⟩;refine Ab λK nx=>?_;dsimp only[BX,Ad];refine⟨rfl,?_⟩;show Bq _ _ (.ref a) _ _;refine CD (xs:=Ae l) (Bu (CW ha hz)) (λk V' H'=>∃ep es x,V'=[some (.ref a),some (.ref z),x]/\Ext H H'/\H' z=some (.dict ep es)/\es.length<=k/\es.map (·.1)=GZ (l.take k))
  ⟨0,[],none,rfl,Ext.refl.own hz,Ah,le_refl _,rfl⟩ ?_
 rintro I hI k V' H' ⟨ep,es,x,rfl,hE,hz',hlen,hk⟩;refine⟨by show H' a=_;exact rl (hE a _ ha) (rl (CW ha hz) rfl),λhkl=>?_,λy hy=>?_⟩
 ·rw[hkl,AO,take_length]at hk;rw[hkl,AO]at hlen;exact nx _ _ (q z H' hE hz ⟨ep,es,hz',hlen,λkey=>by refine rl GD (rl hk ?_);simp[Ua]⟩)
 ·refine e12 (Ff hy) λs z01 hs=>?_;obtain rfl:=z01;have hkl:k<l.length:=(AJ hs).1;refine⟨show 2<3 by decide,?_⟩;refine Ab λK2 nx2=>?_;show A4 _ _ _ _ _ [some (.ref a),some (.ref z),some (.str s)] _;refine Eq.mpr (At) (Eq.mpr (Aq) (Eq.mpr (AC) (Eq.mpr (Ad) ?_)));show match H' z with|some (.dict _ _)=>_|_=>False
  refine rl hz' ⟨le_trans (show es.length<=1000 by lia) (by decide),λep'=>nx2 _ _ (hI _ _ _ ⟨ep',AI es s (.bool true),_,rfl,hE.own hz,Ah,?_,?_⟩)⟩
  ·have:=JL (es:=es) (k:=s) (v:=.bool true);exact HN this hlen
  ·exact rl Pn (rl hk (rl (B0 hs) (rl T3 rfl)))
def NeedsAt(H:Ac)(d:Addr)(nd:Str->List Str)(l:List Str):Prop:=∃ep es,H d=some (.dict ep es)/\∀x∈l,∃r,Bb es x=some (.ref r)/\H r=some (.list (Ae (nd x)))/\(nd x).length<=1000
theorem NeedsAt.ext(h:NeedsAt H z nd l)(e:Ext H H'):NeedsAt H' z nd l:=by
 exact e22 h λep es h1 h2=>⟨ep,es,e _ _ h1,λx hx=>e13 (h2 x hx) λr h3 h4 h5=>⟨r,h3,e _ _ h4,h5⟩⟩
theorem NeedsAt.sub(h:NeedsAt H z nd l)(e:∀x∈l',x∈l):NeedsAt H z nd l':=by
 exact e22 h λep es h1 h2=>⟨ep,es,h1,λx hx=>h2 x (e x hx)⟩
noncomputable def BH(nd:Str->List Str)(K D:List Str)(x:Str):Bool:=(nd x).all λo=>decide (o∈K)||decide (o∈D)
include G in
theorem QG(hf:P.fns.lookup "are_met"=some BK.Zc){a d kt dt:Addr}{l K D}(ha:H a=some (.list (Ae l)))(hd:NeedsAt H d nd l)(hk:TabIs H kt K)(ht:TabIs H dt D)(hl:l.length<=1000)
  (q:∀z H',Ext H H'->H z=none->H' z=some (.list (Ae (l.filter (BH nd K D))))->Q (.ref z) H'):CallOK c (n+1) true "are_met" [.ref a,.ref d,.ref kt,.ref dt] Q E H:=by
 refine G.call (F:=BK.Zc) hf rfl<|Ab λKK nx=>?_;intro z hz;refine⟨show 4<6 by decide,nx _ _ ?_⟩;refine Ab λKK nx=>?_;dsimp only[BX,Ad];refine⟨rfl,?_⟩;show Bq _ _ (.ref a) _ _;refine CD (xs:=Ae l) (Bu (CW ha hz)) (λk V' H'=>∃x,V'=[some (.ref a),some (.ref d),some (.ref kt),some (.ref dt),some (.ref z),x]/\Ext H H'/\H' z=some (.list (Ae ((l.take k).filter (BH nd K D)))))
  ⟨none,rfl,Ext.refl.own hz,Ah⟩ ?_
 rintro I hI k V' H' ⟨x,rfl,hE,hz'⟩;refine⟨by show H' a=_;exact rl (hE a _ ha) (rl (CW ha hz) rfl),λhkl=>?_,λy hy=>?_⟩
 ·rw[hkl,AO,take_length]at hz';exact nx _ _ (q z H' hE hz hz')
 ·refine e12 (Ff hy) λs z11 hs=>?_;obtain rfl:=z11;have hkl:k<l.length:=(AJ hs).1;refine e22 (hd.ext hE) λep es hd1 hd2=>e13 (hd2 s (mem_of_getElem? hs)) λr hr1 hr2 hr3=>⟨show 5<6 by decide,?_⟩
  refine Ab λK2 nx2=>?_;show A4 _ _ _ _ _ [some (.ref a),some (.ref d),some (.ref kt),some (.ref dt),some (.ref z),some (.str s)] _;dsimp only[A7,Ar,Bl];refine⟨rfl,Eq.mpr (Au) (Eq.mpr (Ad) ?_)⟩;show A8 (.ref d) (.str s) _ _
  (dsimp only[CU];refine rl hd1 ?_)
  refine⟨_,hr1,Ib (xs:=Ae (nd s)) (Bu hr2) (by rw[AO];exact le_trans hr3 (by decide)) (λv=>match v with| .str o=>if(decide (o∈K)||decide (o∈D)) then none else some (.str o)|_=>none) ?_ ?_⟩
  ·intro v hv H₁ hE₁ nx hnx;obtain⟨o,ho,rfl⟩:∃o,o∈nd s/\v = .str o:=by
    unfold Ae at hv;rw[mem_map]at hv;refine e12 hv λo h1 h2=>?_;exact⟨o,h1,h2.symm⟩
   refine Eq.mpr (if_neg (by decide)) (Eq.mpr (Dg) (Eq.mpr (Am) (Eq.mpr (AQ) (Eq.mpr (Ar) (Eq.mpr (Ad) ?_)))));dsimp only[Ad];show AA .NotIn (.str o) (.ref kt) _ _;dsimp only[C1];refine GG ((hk.ext hE).ext hE₁) ?_;have hn:nx (if(decide (o∈K)||decide (o∈D))=true then none else some (.str o)) H₁:=hnx H₁ .refl;by_cases h1:o∈K
   ·rw[decide_eq_true h1]at hn⊢;exact hn
   ·rw[decide_eq_false h1]at hn⊢;show BN _ true [_] _ _ _ _;refine Eq.mpr (AT) (Eq.mpr (Ar) (Eq.mpr (Ad) ?_));dsimp only[Ad];show AA .NotIn (.str o) (.ref dt) _ _;dsimp only[C1];refine GG ((ht.ext hE).ext hE₁) ?_;by_cases h2:o∈D
    ·rw[decide_eq_true h2]at hn⊢;exact hn
    ·rw[decide_eq_false h2]at hn⊢;exact hn
  ·intro b H₁ hE₁ hb;have hfm:∀l:List Str,(Ae l).filterMap (λv=>match v with| .str o=>if(decide (o∈K)||decide (o∈D)) then none else some (AV.str o)|_=>none)=Ae (l.filter λo=>!decide (o∈K)&&!decide (o∈D)):=by
    intro l
    induction l with
    |nil=>rfl
    |cons t r ih=>
     refine rl filterMap_cons (rl ih (rl filter_cons ?_));by_cases h1:t∈K<;>by_cases h2:t∈D<;>simp[Ae,h1,h2]
   refine rl (hfm ..) ?_;intro b' hb';dsimp only[NC];refine Ga (l:=(nd s).filter λo=>!decide (o∈K)&&!decide (o∈D)) (l':=[]) (CW Ah hb') Ah ?_;have hz₁:H₁ z=some (.list (Ae ((l.take k).filter (BH nd K D)))):=hE₁ _ _ hz';have hbz:z≠b:=Cd hz₁ hb;have hb1:H₁ b'=none:=by
    have:b'≠b:=λw=>by rw[w,Ah]at hb';trivial
    rwa[Ag this]at hb'
   have hbz':z≠b':=Cd hz₁ hb1;have hz₂:(up (up H₁ b (.list (Ae ((nd s).filter λo=>!decide (o∈K)&&!decide (o∈D))))) b' (.list [])) z=some (.list (Ae ((l.take k).filter (BH nd K D)))):=by
    exact rl (Ag hbz') (rl (Ag hbz) hz₁)
   have hE₂:Ext H (up (up H₁ b (.list (Ae ((nd s).filter λo=>!decide (o∈K)&&!decide (o∈D))))) b' (.list [])):=((hE.trans hE₁).new hb).new hb';have hm:decide ((nd s).filter (λo=>!decide (o∈K)&&!decide (o∈D))=[])=BH nd K D s:=by
    unfold BH;rw[Bool.eq_iff_iff];simp only[decide_eq_true_eq,filter_eq_nil_iff,all_eq_true,Bool.or_eq_true,Bool.and_eq_true,Bool.not_eq_true',decide_eq_false_iff_not];constructor
    ·intro h o ho;by_cases h1:o∈K
     ·exact .inl h1
     ·exact .inr (Classical.byContradiction λh2=>h o ho ⟨h1,h2⟩)
    ·rintro h o ho ⟨h1,h2⟩;rcases h o ho with z|z
     ·exact h1 z
     ·exact h2 z
   refine rl hm ?_;cases h:BH nd K D s with
   |true=>
    refine Ab λK3 nx3=>⟨?_,?_⟩
    ·show match(up (up H₁ b _) b' _) z with|some (.list _)=>_|some (.dict _ _)=>_|_=>False
     exact rl hz₂ (.inl rfl)
    dsimp only[Al,Ad];show Ay _ [] _ _ _ _;dsimp only[An];refine DJ hz₂ (by have:=length_filter_le (BH nd K D) (l.take k);rw[length_take]at this;refine rl AO ?_;exact KE hl (by decide) this) (nx3 _ _ (nx2 _ _ ?_));refine hI _ _ _ ⟨_,rfl,hE₂.own hz,rl (Ah ..) (rl (B0 hs ..) (rl (filter_append ..) (rl (txs_snoc ..) ?_)))⟩;simp[h]
   |false=>
    refine nx2 _ _ (hI _ _ _ ⟨_,rfl,hE₂,rl (hz₂ ..) (rl (B0 hs ..) (rl (filter_append ..) ?_))⟩);simp[h]
end
def IG(full:List Str)(nd:Str->List Str)(done:List Str)(S:Str->Prop):Prop:=∀x,S x->x∈full/\∀o∈nd x,S o\/o∈done
structure Grt(full:List Str)(nd:Str->List Str)(done g:List Str):Prop where
 sub:g.Sublist full
 met:∀x∈g,∀o∈nd x,o∈g\/o∈done
 top:∀S,IG full nd done S->∀x,S x->x∈g
theorem T4{α:Type}{p:α->Bool}{l:List α}(h:l.length<=(l.filter p).length):l.filter p=l:=by
 apply List.Sublist.eq_of_length filter_sublist;have:=length_filter_le p l;exact Nat.le_antisymm this h
section
variable(G:Gd c P)
def Kt(H:Ac)(full done:List Str)(nd:Str->List Str)(fu d dn rd:Addr)(k:Nat)(V':VV)(H':Ac):Prop:=
 ∃na fo nl,V'=[some (.ref fu),some (.ref d),some (.ref dn),some (.ref rd),some (.ref na),some (.ref fo)]/\Ext H H'/\TabIs H' rd done/\H' na=some (.list (Ae nl))/\k=nl.length/\nl.Sublist full/\
  (∀S,IG full nd done S->∀x,S x->x∈nl)/\H' fo=some (.list (Ae (nl.filter (BH nd nl done))))/\H fo=none
theorem UG{full done nl:List Str}(h:∀S,IG full nd done S->∀x,S x->x∈nl):∀S,IG full nd done S->∀x,S x->x∈nl.filter (BH nd nl done):=by
 intro S hS x hx;rw[mem_filter];refine⟨h S hS x hx,?_⟩;unfold BH;rw[all_eq_true];intro o ho;rcases(hS x hx).2 o ho with z|z
 ·simp[h S hS o z]
 ·simp[z]
set_option tactic.hygienic true in
include G in
theorem Ol(h1:P.fns.lookup "greatest"=some BK.Zg)(h2:P.fns.lookup "are_met"=some BK.Zc)(h3:P.fns.lookup "table_of"=some BK.Zd){fu d dn:Addr}{nd}
  (hf:H fu=some (.list (Ae full)))(hd:NeedsAt H d nd full)(hn:H dn=some (.list (Ae done)))(lf:full.length<=1000)(ld:done.length<=1000)
  (q:∀z H' g,Ext H H'->H z=none->H' z=some (.list (Ae g))->Grt full nd done g->Q (.ref z) H'):CallOK c (n+2) true "greatest" [.ref fu,.ref d,.ref dn] Q E H:=by
 refine G.call (F:=BK.Zg) h1 rfl ?_;show Af _ _ _ _ _ [some (.ref fu),some (.ref d),some (.ref dn),none,none,none] _;refine Ab λKK nx=>?_;dsimp only[At,tv,length_cons,length_nil,Nat.reduceAdd,set_cons_succ,set_cons_zero,A6,Al,An,Ad,getElem?_cons_succ,Aw];refine Il G h3 hn ld λrd H₁ hE₁ hrd ht₁=>⟨by decide,nx _ _ ?_⟩
 refine Ab λKK nx=>?_;dsimp only[At,tv,length_cons,length_nil,Nat.reduceAdd,set_cons_succ,set_cons_zero,A1,Al,An,Ad,Aw];refine GI (hE₁ _ _ hf) lf λna hna=>⟨by decide,nx _ _ ?_⟩
 have hE₂:=hE₁.new (o:=.list (Ae full)) hna;refine Ab λKK nx=>?_;dsimp only[At,tv,length_cons,length_nil,Nat.reduceAdd,set_cons_succ,set_cons_zero,A6,Al,An,Ad,getElem?_cons_succ,Aw];refine Il G h3 (a:=na) (l:=full) Ah lf λkt H₃ hE₃ hkt ht₃=>?_;have hE:Ext H H₃:=hE₂.trans hE₃;have hE13:Ext H₁ H₃:=(Ext.refl.new hna).trans hE₃;have hna3:H₃ na=some (.list (Ae full)):=hE₃ _ _ Ah;refine QG G h2 hna3 (hd.ext hE) ht₃ (ht₁.ext hE13) lf λfo H₄ hE₄ hfo hfo'=>⟨by decide,nx _ _ ?_⟩
 refine Ab λKK nx=>?_;dsimp only[CT];refine⟨rfl,Kt H full done nd fu d dn rd,⟨full.length,na,fo,full,rfl,hE.trans hE₄,(ht₁.ext hE13).ext hE₄,hE₄ _ _ hna3,rfl,List.Sublist.refl _,λS hS x hx=>(hS x hx).1,hfo',hE.none hfo⟩,?_⟩;rintro k V' H' ⟨na',fo',nl,rfl,hX,hR,hN,rfl,hS,hT,hF,hFn⟩;have hlen:nl.length<=full.length:=hS.length_le;have hlen':=length_filter_le (BH nd nl done) nl;have hS':(nl.filter (BH nd nl done)).Sublist full:=filter_sublist.trans hS;have hT':=UG hT;generalize hfl:nl.filter (BH nd nl done)=fl at hF hlen' hS' hT';dsimp only[Ar,A1,Al,An,Ad,getElem?_cons_succ,Aw];refine El hF (by refine rl AO ?_;lia) ?_;refine El hN (rl AO (le_trans (by assumption) (le_trans (by assumption) (by decide)))) ?_
 (dsimp only[Bc,Az];refine rl AO (rl AO ?_))
 by_cases hlt:fl.length<nl.length
 ·refine rl (decide_eq_true (by exact ofNat_lt.mpr (by assumption))) ?_;show Af _ _ _ _ _ [some (.ref fu),some (.ref d),some (.ref dn),some (.ref rd),some (.ref na'),some (.ref fo')] _;refine Ab λK2 nx2=>⟨show 4<6 by decide,nx2 _ _ ?_⟩
  refine Ab λK2 nx2=>?_;dsimp only[set_cons_succ,set_cons_zero,At,tv,length_cons,length_nil,Nat.reduceAdd,A6,Al,An,Ad,getElem?_cons_succ,Aw];refine Il G h3 hF (DV hlt hlen lf) λkt' H₅ hE5 _ ht5=>QG G h2 (hE5 _ _ hF) (((hd.ext hX).ext hE5).sub λx hx=>hS'.subset hx) ht5 (hR.ext hE5) (DV hlt hlen lf) λfo2 H₆ hE6 hfo2 hfo2'=>⟨by decide,nx2 _ _ ?_⟩
  exact⟨_,hlt,fo',fo2,_,rfl,(hX.trans hE5).trans hE6,(hR.ext hE5).ext hE6,hE6 _ _ (hE5 _ _ hF),rfl,hS',hT',hfo2',(hX.trans hE5).none hfo2⟩
 ·refine rl (decide_eq_false (HA hlt))<|nx _ _ ?_;have he:fl=nl:=by
   rw[<-hfl]at hlt⊢;exact T4 (by exact not_lt.mp (by assumption))
  rw[he]at hF;refine q fo' H' nl hX hFn hF ⟨hS,λx hx o ho=>?_,hT⟩;rw[<-he,<-hfl,mem_filter]at hx;have:=hx.2;unfold BH at this;rw[all_eq_true]at this;simpa using this o ho
end
noncomputable def AG(ps:List Pc):List Str:=(ps.filter CX).map (·.name)
noncomputable def Bv(ps:List Pc):List Str:=(ps.filter λx=>x.state==.dn).map (·.name)
noncomputable def AX(B:Bk)(k:Str):List Str:=match AU B.pacts k with
 |some e=>e.2.needs
 |none=>[]
theorem Oz:AG (ps++[x])=AG ps++(if CX x then[x.name] else[]):=by
 unfold AG;refine rl (filter_append ..) (rl (map_append ..) ?_);cases h:CX x<;>simp[h]
theorem Uh:Bv (ps++[x])=Bv ps++(if x.state==.dn then[x.name] else[]):=by
 unfold Bv;refine rl (filter_append ..) (rl (map_append ..) ?_);cases h:x.state==Sta.dn<;>simp[h]
theorem Fe:(AG ps).length<=ps.length:=by unfold AG;exact rl (length_map ..) (length_filter_le _ _)
theorem LG:(Bv ps).length<=ps.length:=by unfold Bv;exact rl (length_map ..) (length_filter_le _ _)
theorem GA:∀{ps:List Pc} {j:Nat} {x:Pc},(ps.map (·.name)).Nodup->ps[j]? =some x->AU ps x.name=some (j,x)
 |q::r,0,x,_,h=>by obtain rfl:=Ak h;exact rl Du (rl (if_pos rfl) rfl)
 |q::r,j+1,x,hn,h=>by
  rw[map_cons,nodup_cons]at hn;have hx:x∈r:=mem_of_getElem? h;rw[Du];refine rl (if_neg (λe=>hn.1 (by rw[e];exact mem_map_of_mem hx))) (rl (GA hn.2 h) ?_);rfl
 |[],_,_,_,h=>by trivial
def NAt(o:Addr->Option Role)(H:Ac)(r e:Addr)(nd:Str->List Str)(es:List (Str×AV))(l:List Str):Prop:=∀x∈l,∃ρ,Bb es x=some (.ref ρ)/\ρ≠r/\ρ≠e/\o ρ=none/\H ρ=some (.list (Ae (nd x)))/\(nd x).length<=1000
theorem NAt.keep(h:NAt o H r e nd es l)(k:∀ρ v,ρ≠r->ρ≠e->o ρ=none->H ρ=some (.list v)->o' ρ=none/\H' ρ=some (.list v)):NAt o' H' r e nd es l:=λx hx=>by
 obtain⟨ρ,h1,h2,h3,h4,h5,h6⟩:=h x hx;have:=k ρ _ h2 h3 h4 h5;exact⟨ρ,h1,h2,h3,this.1,this.2,h6⟩
theorem P9:Bb (AI es k v) x=if x=k then some v else Bb es x:=by
 unfold AI;by_cases h:(Bb es k).isSome=true
 ·refine rl (if_pos h) ?_;unfold Bb at h⊢
  induction es with
  |nil=>cases h
  |cons e r ih=>
   refine rl map_cons (rl (find?_cons) (rl (find?_cons) ?_));rw[find?_cons]at h;by_cases e1:e.1=k
   ·refine rl (if_pos e1) ?_;by_cases e2:x=k
    ·refine rl (show decide ((e.1,v).1=x)=true from decide_eq_true (e1.trans e2.symm)) (rl (if_pos e2) ?_);rfl
    ·have e3:e.1≠x:=λz=>e2 (z.symm.trans e1);refine rl (show decide ((e.1,v).1=x)=false from decide_eq_false e3) (rl (if_neg e2) ?_);clear ih h;show Option.map _ (List.find? _ _)=Option.map _ (List.find? _ _);congr 1
     induction r with
     |nil=>rfl
     |cons a r ih=>
      refine rl map_cons (rl (find?_cons) (rl (find?_cons) ?_));by_cases a1:a.1=k
      ·refine rl (if_pos a1) ?_;have:a.1≠x:=λz=>e2 (z.symm.trans a1);exact rl (show decide ((a.1,v).1=x)=false from decide_eq_false this) ih
      ·refine rl (if_neg a1) ?_;cases decide (a.1=x)
       ·exact ih
       ·rfl
   ·refine rl (if_neg e1) ?_;rw[show decide (e.1=k)=false from decide_eq_false e1]at h;by_cases e2:e.1=x
    ·exact rl (show decide (e.1=x)=true from decide_eq_true e2) (rl (if_neg (λz=>e1 (e2.trans z))) rfl)
    ·exact rl (show decide (e.1=x)=false from decide_eq_false e2) (ih h)
 ·refine rl (if_neg h) ?_;have hn:Bb es k=none:=by cases q:Bb es k with|none=>rfl|some=>rw[q]at h;exact absurd rfl h
  clear h;unfold Bb at hn⊢;rw[find?_append,map_eq_none_iff]at*;by_cases e2:x=k
  ·refine rl (if_pos e2) (rl e2 (rl hn ?_));simp
  ·refine rl (if_neg e2) ?_;cases List.find? (λe=>decide (e.1=x)) es with
   |none=>simp[show ¬ k=x from λz=>e2 z.symm]
   |some w=>rfl
inductive ME(B:Bk)(o:Addr->Option Role)(H:Ac)(b f s p:Addr)(as:List Addr)(zv r d e:Addr)(m1 m2:Nat)(V':VV)(H':Ac):Prop
 |mk (o':Addr->Option Role) (ep:Nat) (es:List (Str×AV)) (pr:Option AV) (hV:V'=[some (.ref b),some (.ref r),some (.ref d),some (.ref e),pr]) (ib:IsBook o' H' b f s p as B) (fr:Fr1 o H o' H') (hz:H' zv=some (.list (as.map .ref))) (hr:H' r=some (.list (Ae (AG (B.pacts.take m1))))) (hd:H' d=some (.dict ep es)) (he:H' e=some (.list (Ae (Bv (B.pacts.take m2)))))
   (zo:o' zv=none) (ro:o' r=none) (dO:o' d=none) (eo:o' e=none) (hl:es.length<=m1) (hn:NAt o' H' r e (AX B) es (AG (B.pacts.take m1))):ME B o H b f s p as zv r d e m1 m2 V' H'
section
variable(G:Gd c P)(U:Bt P)
include G U
theorem N_(hU:P.fns.lookup "Book.standing"=some BK.Zi)(hU1:P.fns.lookup "Pact.is_full"=some BK.Za)(ib:IsBook o H b f s p as B)(ok:BkOK B)(nd:(B.pacts.map (·.name)).Nodup)
  (q:∀z r d e o' H',H z=none->o' z=none->o' r=none->o' d=none->o' e=none->H' z=some (.tuple [.ref r,.ref d,.ref e])->H' r=some (.list (Ae (AG B.pacts)))->NeedsAt H' d (AX B) (AG B.pacts)->H' e=some (.list (Ae (Bv B.pacts)))->IsBook o' H' b f s p as B->Fr1 o H o' H'->Q (.ref z) H'):CallOK c (n+2) true "Book.standing" [.ref b] Q E H:=by
 refine G.call (F:=BK.Zi) hU rfl ?_;have hA:c.P.attrs=BK.attrs:=by exact rl G.hP (rl U.a.attrs rfl)
 have hM:c.P.meths=BK.meths:=by exact rl G.hP (rl U.a.meths rfl)
 show Af _ _ _ _ _ [some (.ref b),none,none,none,none] _;refine Ab λK nx=>?_;intro r hr0;refine⟨show 1<5 by decide,nx _ _ ?_⟩;refine Ap (ib.fresh hr0 (.list [])) λib1 f1=>Ab λK nx=>?_;intro d hd0;refine⟨show 2<5 by decide,nx _ _ ?_⟩;refine Ap (ib1.fresh hd0 (.dict 0 [])) λib2 f2=>Ab λK nx=>?_;intro e he0;refine⟨show 3<5 by decide,nx _ _ ?_⟩;refine Ap (ib2.fresh he0 (.list [])) λib3 f3=>?_;have hrd:r≠d:=DP hd0;have hde:d≠e:=DP he0;have hre:r≠e:=DP (by rw[Ag hde.symm]at he0;exact he0);have hd':H d=none:=Cm hd0;have he':H e=none:=Cm (Cm he0);refine Ap (f2.old r _ Ah (if_pos rfl)) λr2 ro2=>Ap (f3.old r _ r2 ro2) λr3 ro3=>Ap (f3.old d _ Ah (if_pos rfl)) λd3 do3=>?_;have fr3:=(f1.trans f2).trans f3;obtain⟨o3,H3,ib3,fr3,r3,d3,e3,ro3,do3,eo3⟩:∃o3 H3,IsBook o3 H3 b f s p as B/\Fr1 o H o3 H3/\H3 r=some (.list [])/\H3 d=some (.dict 0 [])/\H3 e=some (.list [])/\o3 r=none/\o3 d=none/\o3 e=none/\H3=up (up (up H r (.list [])) d (.dict 0 [])) e (.list []):=⟨_,_,ib3,fr3,r3,d3,Ah,ro3,do3,if_pos rfl,rfl⟩
 refine Ap eo3 λeo3 hH3=>rl hH3.symm<|Ab λK nx=>⟨rfl,L8 hA rfl ib3 ok.len rfl λzv o4 H4 hzv0 hzvo hzv ib4 f4=>Ap (f4.old _ _ r3 ro3) λr4 ro4=>Ap (f4.old _ _ d3 do3) λd4 do4=>Ap (f4.old _ _ e3 eo3) λe4 eo4=>Ap (GK ib4.ps) λ_ hlen=>?_⟩
 have fr4:=fr3.trans f4;have hzr:zv≠r:=λh=>by rw[h,r3]at hzv0;trivial
 have hzd:zv≠d:=λh=>by rw[h,d3]at hzv0;trivial
 have hze:zv≠e:=λh=>by rw[h,e3]at hzv0;trivial
 clear hH3 f1 f2 f3 r2 ro2 ib1 ib2;refine CD (xs:=as.map .ref) (Bu hzv) (λm V' H'=>ME B o H b f s p as zv r d e m m V' H') ⟨o4,0,[],none,rfl,ib4,fr4,hzv,r4,d4,e4,hzvo,ro4,do4,eo4,le_refl _,λx hx=>by trivial⟩ ?_;rintro I hI m V' H' ⟨o',ep,es,pr,rfl,ib',fr',hz',hr',hdd',hee',zo',ro',do',eo',hl',hn'⟩;refine⟨by show H' zv=_;exact rl hz' (rl hzv rfl),λhm=>?_,λy hy=>?_⟩
 ·rw[length_map,hlen]at hm;rw[hm,take_length]at hr' hee' hn';refine nx _ _<|Ab λK nx=>?_;intro z hz0;refine Ap (ib'.fresh hz0 (.tuple [.ref r,.ref d,.ref e])) λib5 f5=>Ap (f5.old _ _ hr' ro') λr5 ro5=>Ap (f5.old _ _ hdd' do') λd5 do5=>Ap (f5.old _ _ hee' eo') λe5 eo5=>q z r d e _ _ (fr'.gr z hz0) (if_pos rfl) ro5 do5 eo5 Ah r5 ⟨ep,es,d5,λx hx=>?_⟩ e5 ib5 (fr'.trans f5);obtain⟨ρ,h1,_,_,h4,h5,h6⟩:=hn' x hx;exact⟨ρ,h1,(f5.old _ _ h5 h4).1,h6⟩
 rw[getElem?_map,map_eq_some_iff]at hy;obtain⟨a,ha,rfl⟩:=hy;obtain⟨x,hx⟩:∃x,B.pacts[m]? =some x:=⟨B.pacts[m]'(rl hlen.symm ((AJ ha).1)),getElem?_eq_getElem _⟩
 have hin:=ok.inl m x hx;have hml:m<B.pacts.length:=(AJ hx).1;have hpl:=ok.len;have htk:B.pacts.take (m+1)=B.pacts.take m++[x]:=by refine rl take_add_one (rl hx ?_);rfl
 have hndx:AX B x.name=x.needs:=by unfold AX;exact rl (GA nd hx) rfl
 refine⟨show 4<5 by decide,?_⟩;refine Ab λK2 nx2=>?_;show A4 _ _ _ _ _ [some (.ref b),some (.ref r),some (.ref d),some (.ref e),some (.ref a)] _;have second:∀H1,ME B o H b f s p as zv r d e (m+1) m [some (.ref b),some (.ref r),some (.ref d),some (.ref e),some (.ref a)] H1->K2 [some (.ref b),some (.ref r),some (.ref d),some (.ref e),some (.ref a)] H1:=by
  rintro H1 ⟨o1,ep1,es1,pr1,hV1,ib1,fr1,hz1,hr1,hd1,he1,zo1,ro1,do1,eo1,hl1,hn1⟩;refine nx2 _ _<|Ab λK3 nx3=>?_;dsimp only[A7,Ar];refine Ip hA (ib1.pact hx ha) rfl ?_
  (dsimp only[Aq,CF,Az];refine rl My ?_)
  have hdn:=Uh (ps:=B.pacts.take m) (x:=x);cases hs:x.state==Sta.dn with
  |false=>
   rw[hs]at hdn;refine nx3 _ _ (hI _ _ _ ⟨o1,ep1,es1,_,rfl,ib1,fr1,hz1,hr1,hd1,?_,zo1,ro1,do1,eo1,hl1,hn1⟩);refine rl htk (rl hdn (rl he1 ?_));simp
  |true=>
   rw[hs]at hdn;refine Ab λK4 nx4=>⟨?_,?_⟩
   ·show match H1 e with|some (.list _)=>_|some (.dict _ _)=>_|_=>False
    exact rl he1 (.inl rfl)
   dsimp only[Al];refine JN hA (ib1.pact hx ha) rfl ?_;dsimp only[An];refine DJ he1 (by refine rl AO ?_;have:=LG (ps:=B.pacts.take m);rw[length_take]at this;exact KE hpl (by decide) this) (nx4 _ _ (nx3 _ _ (hI _ _ _ ⟨o1,ep1,es1,_,rfl,ib1.upN eo1 _,fr1.upF he',?_,?_,?_,?_,zo1,ro1,do1,eo1,hl1,hn1.keep λρ v h1 h2 h3 h4=>⟨h3,by exact rl (Ag h2) h4⟩⟩)))
   ·exact rl (Ag hze) hz1
   ·exact rl (Ag hre) hr1
   ·exact rl (Ag hde) hd1
   ·refine rl Ah (rl htk (rl hdn (rl txs_snoc ?_)));rfl
 have hfu:=Oz (ps:=B.pacts.take m) (x:=x);dsimp only[A7];refine PR hA (ib'.pact hx ha) rfl hM (by decide) (by decide)<|Ox G hU1 hA (ib'.pact hx ha) hin.1 hin.2.1 ?_;cases hs:CX x with
 |false=>
  rw[hs]at hfu;refine second H' ⟨o',ep,es,_,rfl,ib',fr',hz',?_,hdd',hee',zo',ro',do',eo',le_succ_of_le hl',?_⟩
  ·refine rl htk (rl hfu (rl hr' ?_));simp
  ·refine rl htk (rl hfu ?_);simpa using hn'
 |true=>
 rw[hs]at hfu;refine Ab λK3 nx3=>⟨?_,?_⟩
 ·show match H' r with|some (.list _)=>_|some (.dict _ _)=>_|_=>False
  exact rl hr' (.inl rfl)
 dsimp only[Al];refine JN hA (ib'.pact hx ha) rfl ?_;dsimp only[An];refine DJ hr' (by refine rl AO ?_;have:=Fe (ps:=B.pacts.take m);rw[length_take]at this;exact KE hpl (by decide) this) (nx3 _ _ ?_);have ib5:=ib'.upN ro' (.list (Ae (AG (B.pacts.take m))++[.str x.name]));have fr5:Fr1 o H o' (up H' r (.list (Ae (AG (B.pacts.take m))++[.str x.name]))):=fr'.upF hr0;have n5:=hn'.keep (H':=up H' r (.list (Ae (AG (B.pacts.take m))++[.str x.name]))) λρ v h1 h2 h3 h4=>⟨h3,by exact rl (Ag h1) h4⟩
 have z5:up H' r (.list (Ae (AG (B.pacts.take m))++[.str x.name])) zv=some (.list (as.map .ref)):=by exact rl (Ag hzr) hz'
 have d5:up H' r (.list (Ae (AG (B.pacts.take m))++[.str x.name])) d=some (.dict ep es):=by exact rl (Ag hrd.symm) hdd'
 have e5:up H' r (.list (Ae (AG (B.pacts.take m))++[.str x.name])) e=some (.list (Ae (Bv (B.pacts.take m)))):=by exact rl (Ag hre.symm) hee'
 have r5:up H' r (.list (Ae (AG (B.pacts.take m))++[.str x.name])) r=some (.list (Ae (AG (B.pacts.take m))++[.str x.name])):=Ah;generalize up H' r (.list (Ae (AG (B.pacts.take m))++[.str x.name]))=H5 at ib5 fr5 n5 z5 d5 e5 r5;refine Ab λK4 nx4=>?_;dsimp only[At,A1,Al];refine Pq hA (ib5.pact hx ha) rfl λzn _ hzn=>?_;dsimp only[An];refine GI hzn (le_trans hin.2.2.2 (by decide)) λρ hρ=>Ap (ib5.fresh hρ (.list (Ae x.needs))) λib6 f6=>?_;have fr6:=fr5.trans f6;refine Ap (f6.old _ _ z5 zo') λz6 zo6=>Ap (f6.old _ _ d5 do') λd6 do6=>Ap (f6.old _ _ e5 eo') λe6 eo6=>Ap (f6.old _ _ r5 ro') λr6 ro6=>?_;dsimp only[AC,Ad];show Aj _ (.attr (.var 4) "name") _ _ _ _;refine JN hA (ib6.pact hx ha) rfl ?_;show match up H5 ρ (.list (Ae x.needs)) d with|some (.dict _ _)=>_|_=>False
 refine rl d6 ?_;have hρr:ρ≠r:=λh=>by rw[h,r5]at hρ;cases hρ
 have hρe:ρ≠e:=λh=>by rw[h,e5]at hρ;cases hρ
 have hρd:ρ≠d:=λh=>by rw[h,d5]at hρ;cases hρ
 refine⟨le_trans (show es.length<=1000 by lia) (by decide),λep'=>nx4 _ _ (second _ ⟨_,ep',AI es x.name (.ref ρ),_,rfl,ib6.upN do6 _,fr6.upF hd',?_,?_,Ah,?_,zo6,ro6,do6,eo6,?_,?_⟩)⟩
 ·exact rl (Ag hzd) z6
 ·refine rl (Ag hrd) (rl r6 (rl htk (rl hfu (rl txs_snoc ?_))));rfl
 ·exact rl (Ag hde.symm) e6
 ·have:=JL (es:=es) (k:=x.name) (v:=.ref ρ);exact HN this hl'
 ·intro y hy;refine rl P9 ?_;by_cases hyx:y=x.name
  ·refine rl (if_pos hyx) ⟨ρ,rfl,hρr,hρe,if_pos rfl,?_,?_⟩
   ·exact rl (Ag hρd) (rl Ah (rl hyx (rl hndx rfl)))
   ·exact rl hyx (rl hndx (le_trans hin.2.2.2 (by decide)))
  ·refine rl (if_neg hyx) ?_;rw[htk,hfu]at hy;have hy':y∈AG (B.pacts.take m):=by
    rcases mem_append.mp hy with h|h
    ·exact h
    ·exact absurd (mem_singleton.mp h) hyx
   obtain⟨ρ',h1,h2,h3,h4,h5,h6⟩:=n5 y hy';refine Ap (f6.old _ _ h5 h4) λh7 h8=>⟨ρ',h1,h2,h3,h8,?_,h6⟩
   refine rl (Ag (λz=>by rw[z,d6]at h7;cases h7)) ?_;exact h7
end
section
variable{o:Addr->Option Role}{H:Ac}{b f s p a:Addr}{as:List Addr}{B:Bk}{j:Nat}{x:Pc}{Q:AV->Ac->Prop}{E:String->Ac->Prop}
noncomputable def payAll:List (Str×Int)->Bk->Bk
 |[],B=>B
 |e::l,B=>payAll l {B with aside:=pt B.aside e.1 ((lk B.aside e.1).getD 0 - e.2)}
theorem Ob:∀{l:List (Str×Int)} {B:Bk},payAll (l++[e]) B= {payAll l B with aside:=pt (payAll l B).aside e.1 ((lk (payAll l B).aside e.1).getD 0 - e.2)}
 |[],B=>rfl
 |_::l,B=>Ob (l:=l)
theorem SameB.payAll:∀{l:List (Str×Int)} {B:Bk},(∀e∈l,hs B.aside e.1=true)->SameB B (Internal.payAll l B)/\(Internal.payAll l B).pacts=B.pacts
 |[],B,_=>⟨.refl,rfl⟩
 |e::l,B,h=>by
  have h0:=h e mem_cons_self;have s1:SameB B {B with aside:=pt B.aside e.1 ((lk B.aside e.1).getD 0 - e.2)}:=⟨rfl,rfl,(FC h0).1,λ_=>rfl,(FC h0).2⟩
  obtain⟨s2,p2⟩:=SameB.payAll (l:=l) (B:={B with aside:=pt B.aside e.1 ((lk B.aside e.1).getD 0 - e.2)}) λe' he=>by exact rl (s1.ah ..) (h e' (mem_cons_of_mem _ he))
  exact⟨s1.trans s2,p2⟩
theorem Tz(hA:g.c.P.attrs=BK.attrs)(hmd:g.md=true)(ib:IsBook o H b f s p as B)(hj:B.pacts[j]? =some x)(ha:as[j]? =some a)(hV:V=[some (.ref b),v1,v2,v3,some (.ref a),v5])(hz:B.aside.length<=sizeLine)(able:∀e∈x.parts,hs B.aside e.1=true)
  (q:∀H' v5',IsBook o H' b f s p as (payAll x.parts B)->Fr1 o H o H'->KD o H H'->QN [some (.ref b),v1,v2,v3,some (.ref a),v5'] H') :
  A4 g (.for (.var 5) (.attr (.var 4) "parts") [.assign (.sub (.attr (.var 0) "aside") (.sub (.var 5) (.lit (.int 0)))) (.bin .Sub (.sub (.attr (.var 0) "aside") (.sub (.var 5) (.lit (.int 0)))) (.sub (.var 5) (.lit (.int 1))))]) QN QR EE V H:=by
 subst hV;refine rl BX ⟨hmd,JA hA (ib.pact hj ha) rfl λz ⟨hzd,ts,hts,hl⟩=>CD (xs:=ts.map .ref) (Bu hts) (λm V' H'=>(∃pr,V'=[some (.ref b),v1,v2,v3,some (.ref a),pr])/\IsBook o H' b f s p as (payAll (x.parts.take m) B)/\Fr1 o H o H'/\KD o H H') ⟨⟨_,rfl⟩,by rw[take_zero];exact ib,.refl,λ_ _=>rfl⟩ ?_⟩;rintro I hI m V' H' ⟨⟨pr,rfl⟩,ib',fr',kd'⟩;refine Ap (SameB.payAll (l:=x.parts.take m) (B:=B) λe he=>able e (mem_of_mem_take he)) λsm hp=>⟨kd' z hzd,λhlen=>?_,λy hy=>?_⟩
 ·rw[hlen,length_map,G9 hl,take_length]at ib';exact q H' pr ib' fr' kd'
 rw[getElem?_map,map_eq_some_iff]at hy;refine e12 hy λt ht z02=>?_;obtain rfl:=z02;refine e13 (Ie hl ht) λe he htd htt=>?_;have htt':H' t=some (.tuple [.str e.1,.int e.2]):=by exact rl (kd' t htd) htt
 have hsplit:x.parts.take (m+1)=x.parts.take m++[e]:=by refine rl take_add_one (rl he ?_);rfl
 refine⟨show 5<6 by decide,?_⟩;refine Ab λK nx=>?_;show A4 _ _ _ _ _ [some (.ref b),v1,v2,v3,some (.ref a),some (.ref t)] _;refine rl At (rl Av (rl Au (GB hA ib' rfl (rl Au (rl Ad ?_)))));show Aj _ (.lit (.int 0)) _ _ _ _;refine rl Aq<|FJ htt' ?_;have hab:hs (payAll (x.parts.take m) B).aside e.1=true:=by exact rl (sm.ah ..) (able e (mem_of_getElem? he))
 refine LA ib' (GX hab)<|rl Au (rl Ad ?_);show Aj _ (.lit (.int 1)) _ _ _ _;refine rl Aq<|J' htt'<|rl De (rl AC (GB hA ib' rfl (rl Au (rl Ad ?_))));show Aj _ (.lit (.int 0)) _ _ _ _;refine rl Aq<|FJ htt'<|e11 ib'.hs λep hd=>?_;show match H' s with|some (.dict _ _)=>_|_=>False
 refine rl hd ⟨by refine rl G_ (rl sm.al ?_);exact hz,λep'=>nx _ _ (hI _ _ _ ⟨⟨_,rfl⟩,?_,fr'.trans (FI (by refine rl ib'.os ?_;simp)),kd'.trans (KD.up ib'.os (by intro h;trivial))⟩)⟩;exact rl GQ (rl hsplit (rl Ob (ib'.setAside ep' _)))
noncomputable def gainAll:List (Str×Int)->Bk->Bk
 |[],B=>B
 |e::l,B=>gainAll l {B with free:=pt B.free e.1 ((lk B.free e.1).getD 0+e.2)}
theorem NS:∀{l:List (Str×Int)} {B:Bk},gainAll (l++[e]) B= {gainAll l B with free:=pt (gainAll l B).free e.1 ((lk (gainAll l B).free e.1).getD 0+e.2)}
 |[],B=>rfl
 |_::l,B=>NS (l:=l)
theorem SameB.gainAll:∀{l:List (Str×Int)} {B:Bk},(∀e∈l,hs B.free e.1=true)->SameB B (Internal.gainAll l B)/\(Internal.gainAll l B).pacts=B.pacts
 |[],B,_=>⟨.refl,rfl⟩
 |e::l,B,h=>by
  have h0:=h e mem_cons_self;have s1:SameB B {B with free:=pt B.free e.1 ((lk B.free e.1).getD 0+e.2)}:=⟨rfl,(FC h0).1,rfl,(FC h0).2,λ_=>rfl⟩
  obtain⟨s2,p2⟩:=SameB.gainAll (l:=l) (B:={B with free:=pt B.free e.1 ((lk B.free e.1).getD 0+e.2)}) λe' he=>by exact rl (s1.fh ..) (h e' (mem_cons_of_mem _ he))
  exact⟨s1.trans s2,p2⟩
theorem Tl(hA:g.c.P.attrs=BK.attrs)(hmd:g.md=true)(ib:IsBook o H b f s p as B)(hj:B.pacts[j]? =some x)(ha:as[j]? =some a)(hV:V=[some (.ref b),v1,v2,v3,some (.ref a),v5])(hz:B.free.length<=sizeLine)(able:∀e∈x.gains,hs B.free e.1=true)
  (q:∀H' v5',IsBook o H' b f s p as (gainAll x.gains B)->Fr1 o H o H'->KD o H H'->QN [some (.ref b),v1,v2,v3,some (.ref a),v5'] H') :
  A4 g (.for (.var 5) (.attr (.var 4) "gains") [.assign (.sub (.attr (.var 0) "free") (.sub (.var 5) (.lit (.int 0)))) (.bin .Add (.sub (.attr (.var 0) "free") (.sub (.var 5) (.lit (.int 0)))) (.sub (.var 5) (.lit (.int 1))))]) QN QR EE V H:=by
 subst hV;refine rl BX ⟨hmd,Vj hA (ib.pact hj ha) rfl λz ⟨hzd,ts,hts,hl⟩=>CD (xs:=ts.map .ref) (Bu hts) (λm V' H'=>(∃pr,V'=[some (.ref b),v1,v2,v3,some (.ref a),pr])/\IsBook o H' b f s p as (gainAll (x.gains.take m) B)/\Fr1 o H o H'/\KD o H H') ⟨⟨_,rfl⟩,by rw[take_zero];exact ib,.refl,λ_ _=>rfl⟩ ?_⟩;rintro I hI m V' H' ⟨⟨pr,rfl⟩,ib',fr',kd'⟩;refine Ap (SameB.gainAll (l:=x.gains.take m) (B:=B) λe he=>able e (mem_of_mem_take he)) λsm hp=>⟨kd' z hzd,λhlen=>?_,λy hy=>?_⟩
 ·rw[hlen,length_map,G9 hl,take_length]at ib';exact q H' pr ib' fr' kd'
 rw[getElem?_map,map_eq_some_iff]at hy;refine e12 hy λt ht z12=>?_;obtain rfl:=z12;refine e13 (Ie hl ht) λe he htd htt=>?_;have htt':H' t=some (.tuple [.str e.1,.int e.2]):=by exact rl (kd' t htd) htt
 have hsplit:x.gains.take (m+1)=x.gains.take m++[e]:=by refine rl take_add_one (rl he ?_);rfl
 refine⟨show 5<6 by decide,?_⟩;refine Ab λK nx=>?_;show A4 _ _ _ _ _ [some (.ref b),v1,v2,v3,some (.ref a),some (.ref t)] _;refine rl At (rl Av (rl Au (EJ hA ib' rfl (rl Au (rl Ad ?_)))));show Aj _ (.lit (.int 0)) _ _ _ _;refine rl Aq<|FJ htt' ?_;have hab:hs (gainAll (x.gains.take m) B).free e.1=true:=by exact rl (sm.fh ..) (able e (mem_of_getElem? he))
 refine Im ib' (GX hab)<|rl Au (rl Ad ?_);show Aj _ (.lit (.int 1)) _ _ _ _;refine rl Aq<|J' htt'<|rl C7 (rl AC (EJ hA ib' rfl (rl Au (rl Ad ?_))));show Aj _ (.lit (.int 0)) _ _ _ _;refine rl Aq<|FJ htt'<|e11 ib'.hf λep hd=>?_;show match H' f with|some (.dict _ _)=>_|_=>False
 refine rl hd ⟨by refine rl G_ (rl sm.fl ?_);exact hz,λep'=>nx _ _ (hI _ _ _ ⟨⟨_,rfl⟩,?_,fr'.trans (FI (by refine rl ib'.of ?_;simp)),kd'.trans (KD.up ib'.of (by intro h;trivial))⟩)⟩;exact rl GQ (rl hsplit (rl NS (ib'.setFree ep' _)))
theorem VL{g:Gx}{V:VV}{QN:VV->Ac->Prop}{QR}{EE}{i}{st}{rest}(hA:g.c.P.attrs=BK.attrs)(ib:IsBook o H b f s p as B)(hj:B.pacts[j]? =some x)(ha:as[j]? =some a)(hV:V[i]? =some (some (.ref a)))
  (q:∀o' H',IsBook o' H' b f s p as {B with pacts:=B.pacts.set j {x with inside:=[],state:=st}}->Fr1 o H o' H'->Af g rest QN QR EE V H'):Af g (.assign (.attr (.var i) "inside") (.dict [] [])::.assign (.attr (.var i) "state") (.lit (.str st.str))::rest) QN QR EE V H:=by
 have hC:∀n,BK.attrs.contains ("Pact",n)=true->g.c.P.attrs.contains ("Pact",n)=true:=λn h=>by exact rl hA h
 obtain⟨h0,pa,ga,ne,ins,ep,h,h1,h2,h3,h4,h5,h6⟩:=ib.pact hj ha;refine Ab λK nx=>?_;dsimp only[At,Bg];intro w hw;have haw:a≠w:=λe=>by rw[e,hw]at h;trivial
 refine B9 hV (hC _ rfl) (rl (Ag haw) h) (by exact(show 7<=100 by decide)) (nx _ _ (Ab λK nx=>?_));dsimp only[At,Aq];refine B9 hV (hC _ rfl) Ah (by exact(show 7<=100 by decide)) (nx _ _ ?_);have kb0:KB (λ_=>True) o (λy=>if y=w then some (.inside j) else o y) H (up H w (.dict 0 [])):=λy r v _ hr hv _=>by
  have:y≠w:=λe=>by rw[e,hw]at hv;trivial
  exact⟨(if_neg this).trans hr,by exact rl (Ag this) hv⟩
 have ib1:=ib.congr kb0;generalize ho:(λy=>if y=w then some (Role.inside j) else o y)=o' at kb0 ib1;have hoa:o' a=some (.pact j):=by exact rl ho.symm ((if_neg haw).trans h0)
 have how:o' w=some (.inside j):=by exact rl ho.symm (if_pos rfl)
 have kb1:∀{X:Ac} {y:AObj},KB (λr=>r≠.pact j/\r≠.inside j) o' o' X (up X a y):=Fp λr hr=>by rw[hoa]at hr;obtain rfl:=Ak hr;exact λz=>z.1 rfl
 have kbd:∀{X:Ac} {y:AObj},KB (λr=>r = .data) o' o' X (up X a y):=Fp λr hr=>by rw[hoa]at hr;cases hr;exact λz=>by cases z
 have kb0':KB (λr=>r = .data) o o' H (up H w (.dict 0 [])):=λy r v _ hr hv hb=>kb0 y r v trivial hr hv hb;refine q o' _ (ib1.setPact hj ha (λy r v hr ho hv hb=>kb1 y r v hr ho (kb1 y r v hr ho hv hb).2 hb) (⟨hoa,pa,ga,ne,w,0,Ah,((h1.congr kb0' rfl).congr kbd rfl).congr kbd rfl,((h2.congr kb0' rfl).congr kbd rfl).congr kbd rfl,(kb0' ne _ _ rfl h3 h4 rfl).1,?_,how,?_⟩:IsPact o' _ j a {x with inside:=[],state:=st}) rfl) ⟨λy v hy ho'=>?_,λy h=>Cm (Cm (Cm h))⟩
 ·have:=kb0' ne _ _ rfl h3 h4 rfl;have hna:ne≠a:=CS this.1 hoa (by intro z;trivial);exact rl (Ag hna) (rl (Ag hna) this.2)
 ·refine rl (Ag haw.symm) (rl (Ag haw.symm) (rl Ah ?_));rfl
 ·have hyw:y≠w:=λe=>by rw[e,hw]at hy;trivial
  have hya:y≠a:=λe=>by rw[e,h0]at ho';trivial
  exact⟨by refine rl (Ag hya) (rl (Ag hya) (rl (Ag hyw) ?_));exact hy,by refine rl ho.symm ?_;exact(if_neg hyw).trans ho'⟩
end
noncomputable def FM(B:Bk)(j:Nat)(x:Pc):Bk:={gainAll x.gains (payAll x.parts B)with pacts:=B.pacts.set j {x with inside:=[],state:=.dn}}
noncomputable def C0:List Str->Bk->Bk
 |[],B=>B
 |k::r,B=>C0 r (match AU B.pacts k with|some e=>FM B e.1 e.2 |none=>B)
theorem LM:C0 (k::r) B=C0 r (match AU B.pacts k with|some e=>FM B e.1 e.2 |none=>B):=rfl
theorem OR:∀{ps:List Pc} {j:Nat} {x x':Pc},ps[j]? =some x->x'.name=x.name->(ps.set j x').map (·.name)=ps.map (·.name)
 |q::r,0,x,x',h,e=>by obtain rfl:=Ak h;simp[e]
 |q::r,j+1,x,x',h,e=>by exact rl set_cons_succ (rl map_cons (rl map_cons (rl (OR (ps:=r) (j:=j) h e) rfl)))
 |[],_,_,_,h,_=>by trivial
theorem Ma:∀{ps:List Pc} {k:Str},k∈ps.map (·.name)->∃e,AU ps k=some e
 |q::r,k,h=>by
  rw[Du];by_cases e:q.name=k
  ·exact⟨_,if_pos e⟩
  ·refine rl (if_neg e) ?_;rw[map_cons]at h;exact e11 (Ma (ps:=r) ((mem_cons.mp h).resolve_left λz=>e z.symm)) λw hw=>rl hw ⟨_,rfl⟩
theorem BkOK.ends{B:Bk}{j:Nat}(ok:BkOK B)(hj:B.pacts[j]? =some x):SameB B (gainAll x.gains (payAll x.parts B))/\(gainAll x.gains (payAll x.parts B)).pacts=B.pacts/\SameB B (payAll x.parts B)/\(payAll x.parts B).pacts=B.pacts:=by
 refine Ap (SameB.payAll (l:=x.parts) (B:=B) λe he=>ok.both _ (ok.purse j x hj e (.inl he))) λs1 p1=>?_;obtain⟨s2,p2⟩:=SameB.gainAll (l:=x.gains) (B:=payAll x.parts B) λe he=>by exact rl (s1.fh ..) (ok.purse j x hj e (.inr he))
 exact⟨s1.trans s2,p2.trans p1,s1,p1⟩
theorem BkOK.done{B:Bk}{j:Nat}(ok:BkOK B)(hj:B.pacts[j]? =some x):BkOK (FM B j x):=by
 refine Ap (ok.ends hj) λsm _=>ok.keep ⟨sm.day,sm.fl,sm.al,sm.fh,sm.ah⟩ length_set (λm y hy=>?_) λm y hy=>?_
 ·rcases JG hy with⟨rfl,rfl,_⟩|⟨_,h⟩
  ·exact⟨x,hj,rfl,rfl,rfl,λk hk=>by trivial⟩
  ·exact⟨y,h,rfl,rfl,rfl,ok.part m y h⟩
 ·rcases JG hy with⟨rfl,rfl,_⟩|⟨_,h⟩
  ·exact zero_le _
  ·exact(ok.inl m y h).1
inductive HV(B:Bk)(o:Addr->Option Role)(H:Ac)(b f s p:Addr)(as:List Addr)(g:List Str)(v1:Option AV)(z:Addr)(m:Nat)(V':VV)(H':Ac):Prop
 |mk (o':Addr->Option Role) (B':Bk) (p3 p4 p5:Option AV) (hV:V'=[some (.ref b),v1,some (.ref z),p3,p4,p5]) (ib:IsBook o' H' b f s p as B') (ok:BkOK B') (fr:Fr1 o H o' H') (hz:H' z=some (.list (Ae g))) (zo:o' z=none) (hn:B'.pacts.map (·.name)=B.pacts.map (·.name)) (hR:C0 (g.drop m) B'=C0 g B):HV B o H b f s p as g v1 z m V' H'
section
variable{c:Cx}{P:Pg}(G:Gd c P)(U:Bt P){n:Nat}{md:Bool}{Q:AV->Ac->Prop}{E:String->Ac->Prop}{H:Ac}{o:Addr->Option Role}{b f s p a:Addr}{as:List Addr}{B:Bk}{j:Nat}{x:Pc}
theorem IsBook.extZ(ib:IsBook o H b f s p as B)(hE:Ext H H')(hz:H z=none):∃o',IsBook o' H' b f s p as B/\Fr1 o H o' H'/\o' z=none:=
 ⟨λa=>if a=z then none else o a,ib.congr λa r v _ hr hv _=>⟨(if_neg (λe=>by rw[e,hz]at hv;trivial)).trans hr,hE a v hv⟩,⟨λa v h k=>⟨hE a v h,(if_neg (λe=>by rw[e,hz]at h;trivial)).trans k⟩,λa h=>hE.none h⟩,if_pos rfl⟩
include G U
set_option tactic.hygienic true in
theorem Us(hU:P.fns.lookup "Book.settle"=some BK.Zx)(hU0:P.fns.lookup "Book.standing"=some BK.Zi)(hU1:P.fns.lookup "Pact.is_full"=some BK.Za)(g1:P.fns.lookup "greatest"=some BK.Zg)(g2:P.fns.lookup "are_met"=some BK.Zc)(g3:P.fns.lookup "table_of"=some BK.Zd)
  (ib:IsBook o H b f s p as B)(ok:BkOK B)(nd:(B.pacts.map (·.name)).Nodup)
  (q:∀z g o' H',H z=none->o' z=none->H' z=some (.list (Ae g))->Grt (AG B.pacts) (AX B) (Bv B.pacts) g->IsBook o' H' b f s p as (C0 g B)->Fr1 o H o' H'->Q (.ref z) H'):CallOK c (n+3) true "Book.settle" [.ref b] Q E H:=by
 refine G.call (F:=BK.Zx) hU rfl ?_;have hA:c.P.attrs=BK.attrs:=by exact rl G.hP (rl U.a.attrs rfl)
 have hM:c.P.meths=BK.meths:=by exact rl G.hP (rl U.a.meths rfl)
 refine Ab λK nx=>?_;dsimp only[At];refine Cl hM (by decide) (by decide) ib rfl<|N_ G U hU0 hU1 ib ok nd λzt r d e o1 H1 hzt zto ro dO eo ht hr hd he ib1 f1=>⟨show 1<6 by decide,nx _ _ ?_⟩
 refine Ab λK nx=>?_;show A4 _ _ _ _ _ [some (.ref b),some (.ref zt),none,none,none,none] _;dsimp only[At,tv,length_cons,length_nil,Nat.reduceAdd,set_cons_succ,set_cons_zero,A6,Al,An,Au,Aq,Ad,getElem?_cons_succ,Aw];refine EH (v:=.ref r) ht (by decide) rfl (by simp)<|EH (v:=.ref d) ht (by decide) rfl (by simp)<|EH (v:=.ref e) ht (by decide) rfl (by simp) ?_;have lp:=ok.len;refine Ol G g1 g2 g3 hr hd he (le_trans Fe (by exact le_trans (by assumption) (by decide))) (le_trans LG (by exact le_trans (by assumption) (by decide))) λz H2 g hE hz0 hz2 hg=>e13 (ib1.extZ hE hz0) λo2 ib2 f2 zo2=>?_;have fr2:=f1.trans f2;have hgn:∀k∈g,k∈B.pacts.map (·.name):=λk hk=>by
  have:=hg.sub.subset hk;unfold AG at this;refine e12 (mem_map.mp this) λy h1 h2=>?_;refine rl h2.symm ?_;exact mem_map_of_mem (mem_filter.mp h1).1
 refine⟨by decide,nx _ _ ?_⟩;refine Ab λK nx=>?_;dsimp only[BX,Ad];refine⟨rfl,?_⟩;show Bq _ _ (.ref z) _ _;refine CD (xs:=Ae g) (Bu hz2) (HV B o H b f s p as g (some (.ref zt)) z) ⟨o2,B,none,none,none,rfl,ib2,ok,fr2,hz2,zo2,rfl,rfl⟩ ?_;rintro I hI m V' H' ⟨o',B',p3,p4,p5,rfl,ib',ok',fr',hz',zo',hn',hR'⟩;refine⟨by show H' z=_;exact rl hz' (rl hz2 rfl),λhm=>?_,λy hy=>?_⟩
 ·rw[AO]at hm;rw[hm,drop_length]at hR';exact nx _ _ (q z g o' H' (f1.gr z hz0) zo' hz' hg (hR'▸ib') fr')
 refine e12 (Ff hy) λk z21 hk=>?_;obtain rfl:=z21;have hdrop:g.drop m=k::g.drop (m+1):=by
  refine e11 (AJ hk) λhlt hee=>?_;refine rl hee.symm ?_;exact List.drop_eq_getElem_cons hlt
 obtain⟨w,hw⟩:=Ma (ps:=B'.pacts) (k:=k) (by refine rl hn' ?_;exact hgn k (mem_of_getElem? hk));obtain⟨j,x⟩:=w;have hj:=(D5 hw).1;rw[hdrop,LM,hw]at hR';refine e12 (G7 ib'.ps hj) λa ha _=>EU (ok'.ends hj) λs2 q2 s1 q1=>⟨show 3<6 by decide,?_⟩
 refine Ab λK2 nx2=>?_;dsimp only[At,Au];refine EF hA ib' rfl<|J0 ib' hw λa' ha' _=>?_;rw[ha]at ha';obtain rfl:=Ak ha';refine⟨show 4<6 by decide,nx2 _ _ ?_⟩;refine Ab λK2 nx2=>Tz hA rfl ib' hj ha rfl ok'.sz.2 (λe he=>ok'.both _ (ok'.purse j x hj e (.inl he))) λH3 v5 ib3 f3 _=>nx2 _ _<|Ab λK2 nx2=>Tl hA rfl ib3 (by refine rl (q1 ..) ?_;exact hj) ha rfl (by refine rl (s1.fl ..) ?_;exact ok'.sz.1) (λe he=>by refine rl (s1.fh ..) ?_;exact ok'.purse j x hj e (.inr he)) λH4 v5' ib4 f4 _=>nx2 _ _ ?_;refine VL (i:=4) (st:=.dn) hA ib4 (by refine rl q2 ?_;exact hj) ha rfl λo5 H5 ib5 f5=>?_;rw[q2]at ib5;have f35:=(f3.trans f4).trans f5;exact Ap (f35.old _ _ hz' zo') λhz5 zo5=>hI _ _ _ ⟨o5,FM B' j x,_,_,_,rfl,ib5,ok'.done hj,fr'.trans f35,hz5,zo5,(OR (x':={x with inside:=[],state:=.dn}) hj rfl).trans hn',hR'⟩
end
abbrev pairsH(H:Ac)(ts:List Addr)(l:List (AV×AV)):Prop:=pairsG (λ_=>none) H ts l
theorem pairsH.in(hb:H b=some (.book B))(hold:∀a x,H a=some x->a≠b->H₂ a=some x/\o a=none):∀{ts:List Addr} {l:List (AV×AV)},pairsH H ts l->pairsG o H₂ ts l
 |[],[],_=>trivial
 |t::ts,e::l,h=>by
  have hne:t≠b:=λz=>by have:=h.1.2.1;rw[z,hb]at this;cases this
  exact⟨⟨(hold t _ h.1.2.1 hne).2,(hold t _ h.1.2.1 hne).1,h.1.2.2⟩,pairsH.in hb hold h.2⟩
 |[],_::_,h=>h.elim
 |_::_,[],h=>h.elim
section
variable(G:Gd c P)(U:Bt P){Q:AV->Ac->Prop}{E:String->Ac->Prop}{H:Ac}
theorem Mj(hb:H b=some (.book B))(h:H a=some (.list xs)):a≠b:=λz=>by rw[z,hb]at h;cases h
include G U
theorem XL(hU:P.fns.lookup "Book.set_aside"=some BK.Zv)(hU2:P.fns.lookup "Pact.part_of"=some BK.Zm)(hb:H b=some (.book B))(kv:Kn H v)(kw:Kn H w)(ok:BkOK B)(q:Ends (Dh B v w) (λB'=>Q .none (up H b (.book B'))) (λcl=>E cl H)):CallOK c (n+4) true "Book.set_aside" [.ref b,v,w] Q E H:=by
 refine D_ hb λH₂ o f s p as ib hold=>UN G U hU hU2 ib (kv.open hb hold) (kw.open hb hold) ok ?_;revert q;cases Dh B v w with
 |ok B'=>exact λq H' ib' fr=>⟨o,f,s,p,as,B',ib',fr,.inl ⟨(λ_ h=>by trivial),q⟩⟩
 |error cl=>exact λq=>⟨o,f,s,p,as,B,ib,.refl,by exact rl (DB hb) q⟩
theorem X0(hU:P.fns.lookup "Book.tell"=some BK.Zu)(hU1:P.fns.lookup "Book.pairs_of"=some BK.Zo)(hU2:P.fns.lookup "Book.needs_of"=some BK.Zp)(hU3:P.fns.lookup "Pact.__init__"=some BK.Zl)(hcl:c.P.classes.contains "Pact"=true)
  (hb:H b=some (.book B))(ok:BkOK B)(kv:Kv v)(kl:Kv last)(hp:H pl=some (.list (ts.map .ref)))(hpg:pairsH H ts pL)(hg:H gl=some (.list (us.map .ref)))(hgg:pairsH H us gL)(hn:H nl=some (.list nL))(hng:∀v∈nL,Kv v)(l1:pL.length<=1000)(l2:gL.length<=1000)(l3:nL.length<=1000)
  (q:Ends (II B v pL gL nL last) (λB'=>Q .none (up H b (.book B'))) (λcl=>E cl H)):CallOK c (n+4) true "Book.tell" [.ref b,v,.ref pl,.ref gl,.ref nl,last] Q E H:=by
 refine D_ hb λH₂ o f s p as ib hold=>Ap (hold _ _ hp (Mj hb hp)) λhp' hpo=>Ap (hold _ _ hg (Mj hb hg)) λhg' hgo=>Ap (hold _ _ hn (Mj hb hn)) λhn' hno=>Vv G U hU hU1 hU2 hU3 hcl ib ok kv kl hp' hpo (hpg.in hb hold) hg' hgo (hgg.in hb hold) hn' hno hng l1 l2 l3 ?_;revert q;cases II B v pL gL nL last with
 |ok B'=>exact λq o' H' as' ib' fr=>⟨o',f,s,p,as',B',ib',fr,.inl ⟨(λ_ h=>by trivial),q⟩⟩
 |error cl=>exact λq o' H' ib' fr=>⟨o',f,s,p,as,B,ib',fr,by exact rl (DB hb) q⟩
theorem SL(hU0:P.fns.lookup "Book.call_off"=some BK.Zw)(hU:P.fns.lookup "Book.dragged"=some BK.Zh)(hU1:P.fns.lookup "Book.first_dragged"=some BK.Zf)(hU2:P.fns.lookup "Book.fell"=some BK.Ze)(hU3:P.fns.lookup "Book.given_back"=some BK.Zb)
  (hb:H b=some (.book B))(ok:BkOK B)(kw:Kn H w)(q:match Bs B w with| .ok r=>∀z,H z=none->Q (.ref z) (up (up H b (.book r.1)) z (.list (Ae r.2)))| .error cl=>E cl H):CallOK c (n+4) true "Book.call_off" [.ref b,w] Q E H:=by
 refine D_ hb λH₂ o f s p as ib hold=>Xf G U hU0 hU hU1 hU2 hU3 ib ok (kw.open hb hold) ?_;revert q;cases Bs B w with
 |ok r=>exact λq z o' H' hz ho hz' ib' fr=>⟨o',f,s,p,as,r.1,ib',fr,.inr ⟨z,_,rfl,Gg G U.a hb ib hold hz,hz',ho,q z (Gg G U.a hb ib hold hz)⟩⟩
 |error cl=>exact λq=>⟨o,f,s,p,as,B,ib,.refl,by exact rl (DB hb) q⟩
theorem V8(hU:P.fns.lookup "Book.settle"=some BK.Zx)(hU0:P.fns.lookup "Book.standing"=some BK.Zi)(hU1:P.fns.lookup "Pact.is_full"=some BK.Za)(g1:P.fns.lookup "greatest"=some BK.Zg)(g2:P.fns.lookup "are_met"=some BK.Zc)(g3:P.fns.lookup "table_of"=some BK.Zd)
  (hb:H b=some (.book B))(ok:BkOK B)(nd:(B.pacts.map (·.name)).Nodup)(q:∀z g,H z=none->Grt (AG B.pacts) (AX B) (Bv B.pacts) g->Q (.ref z) (up (up H b (.book (C0 g B))) z (.list (Ae g)))):CallOK c (n+3) true "Book.settle" [.ref b] Q E H:=by
 exact D_ hb λH₂ o f s p as ib hold=>Us G U hU hU0 hU1 g1 g2 g3 ib ok nd λz g o' H' hz ho hz' hg ib' fr=>⟨o',f,s,p,as,_,ib',fr,.inr ⟨z,_,rfl,Gg G U.a hb ib hold hz,hz',ho,q z g (Gg G U.a hb ib hold hz) hg⟩⟩
theorem WK(hU:P.fns.lookup "Book.state_of"=some BK.Zy)(hb:H b=some (.book B))(kv:Kn H v)(q:match BY B v with|some (j,x)=>Q (.str x.state.str) H|none=>E "NoPact" H):CallOK c (n+3) true "Book.state_of" [.ref b,v] Q E H:=by
 refine D_ hb λH₂ o f s p as ib hold=>Tf G U hU ib (kv.open hb hold) ?_;revert q;cases BY B v with
 |some e=>exact λq=>⟨o,f,s,p,as,B,ib,.refl,.inl ⟨(λ_ h=>by trivial),by exact rl (DB hb) q⟩⟩
 |none=>exact λq=>⟨o,f,s,p,as,B,ib,.refl,by exact rl (DB hb) q⟩
theorem Vq(hU:P.fns.lookup "Book.why_not"=some BK.Zq)(hb:H b=some (.book B))(kv:Kn H v)(hn:BY B v=none)(q:E "NoPact" H):CallOK c (n+3) true "Book.why_not" [.ref b,v] Q E H:=by
 refine D_ hb λH₂ o f s p as ib hold=>G.call (F:=BK.Zq) hU rfl ?_;have hM:c.P.meths=BK.meths:=by exact rl G.hP (rl U.a.meths rfl)
 refine Ab λK nx=>?_;dsimp only[AP];exact Cl hM (by decide) (by decide) ib rfl<|HY G U ib (kv.open hb hold)<|rl hn ⟨o,f,s,p,as,B,ib,.refl,by refine rl (DB hb) ?_;exact q⟩
end
noncomputable def Em(d:Int)(x:Pc):Bool:=x.state==.opn&&decide (x.last<d)
noncomputable def A5(d:Int):Nat->Bk->Bk×List Str
 | 0,B=>(B,[])
 |m+1,B=>match(A5 d m B).1.pacts[m]? with
  |some x=>if Em d x then(CN (A5 d m B).1 m x,(A5 d m B).2++[x.name]) else A5 d m B
  |none=>A5 d m B
theorem M8(h:(A5 d m B).1.pacts[m]? =some x):A5 d (m+1) B=if Em d x then(CN (A5 d m B).1 m x,(A5 d m B).2++[x.name]) else A5 d m B:=by
 show(match(A5 d m B).1.pacts[m]? with|some x=>if Em d x then(CN (A5 d m B).1 m x,(A5 d m B).2++[x.name]) else A5 d m B|none=>A5 d m B)=_;exact rl h rfl
theorem RN(h:(A5 d m B).1.pacts[m]? =none):A5 d (m+1) B=A5 d m B:=by
 show(match(A5 d m B).1.pacts[m]? with|some x=>if Em d x then(CN (A5 d m B).1 m x,(A5 d m B).2++[x.name]) else A5 d m B|none=>A5 d m B)=_;exact rl h rfl
theorem Qm:A5 d (m+1) B=A5 d m B\/∃x,(A5 d m B).1.pacts[m]? =some x/\Em d x=true/\A5 d (m+1) B=(CN (A5 d m B).1 m x,(A5 d m B).2++[x.name]):=by
 cases h:(A5 d m B).1.pacts[m]? with
 |none=>exact .inl (RN h)
 |some x=>
  cases hx:Em d x with
  |false=>exact .inl (by exact rl (M8 h) (rl hx (rl (if_neg Bool.false_ne_true) rfl)))
  |true=>exact .inr ⟨x,rfl,hx,by exact rl (M8 h) (rl (if_pos hx) rfl)⟩
theorem Ml(ok:BkOK B):∀m,BkOK (A5 d m B).1/\(A5 d m B).1.pacts.length=B.pacts.length/\(A5 d m B).2.length<=m/\(A5 d m B).1.day=B.day
 | 0=>⟨ok,rfl,le_refl _,rfl⟩
 |m+1=>by
  obtain⟨h1,h2,h3,h4⟩:=Ml ok m;rcases Qm (d:=d) (m:=m) (B:=B)with e|⟨x,hx,_,e⟩
  ·exact rl e ⟨h1,h2,le_succ_of_le h3,h4⟩
  ·refine rl e ⟨h1.fell hx,fell_len.trans h2,?_,?_⟩
   ·show((A5 d m B).2++[x.name]).length<=m+1;exact rl length_append (succ_le_succ h3)
   ·exact(SameB.all (ins:=x.inside) (l:=x.parts) (h1.giveAble hx)).1.day.trans h4
noncomputable def Rh(B:Bk)(i:Int):Bk×List Str:=Dp B.pacts.length (A5 (B.day+i) B.pacts.length {B with day:=B.day+i}).1 (A5 (B.day+i) B.pacts.length {B with day:=B.day+i}).2
noncomputable def Ek(B:Bk)(v:AV):Except String (Bk×List Str):=if GS v=true/\¬ FL v<1 then .ok (Rh B (FL v)) else .error "NoDay"
theorem BkOK.day(ok:BkOK B)(d:Int):BkOK {B with day:=d}:=⟨ok.sz,ok.both,ok.len,ok.part,ok.inl,ok.purse⟩
section
variable(G:Gd c P)(U:Bt P)
inductive NH(o:Addr->Option Role)(H:Ac)(b f s p:Addr)(as:List Addr)(d:Int)(B:Bk)(v:AV)(z zv:Addr)(m:Nat)(V':VV)(H':Ac):Prop
 |mk (o':Addr->Option Role) (pr:Option AV) (hV:V'=[some (.ref b),some v,some (.ref z),pr]) (ib:IsBook o' H' b f s p as (A5 d m B).1) (fr:Fr1 o H o' H') (hz:H' z=some (.list (Ae (A5 d m B).2))) (ho:o' z=none) (hv:H' zv=some (.list (as.map .ref))) (hvo:o' zv=none) (hne:zv≠z):NH o H b f s p as d B v z zv m V' H'
include G U
theorem Vi(hU0:P.fns.lookup "Book.pass_days"=some BK.Z0)(hU:P.fns.lookup "Book.dragged"=some BK.Zh)(hU1:P.fns.lookup "Book.first_dragged"=some BK.Zf)(hU2:P.fns.lookup "Book.fell"=some BK.Ze)(hU3:P.fns.lookup "Book.given_back"=some BK.Zb)
  (ib:IsBook o H b f s p as B)(ok:BkOK B)(hw:Kn H v)
  (q:match Ek B v with| .ok r=>∀z o' H',H z=none->o' z=none->H' z=some (.list (Ae r.2))->IsBook o' H' b f s p as r.1->Fr1 o H o' H'->Q (.ref z) H'| .error cl=>E cl H):CallOK c (n+4) true "Book.pass_days" [.ref b,v] Q E H:=by
 refine G.call (F:=BK.Z0) hU0 rfl ?_;have hA:c.P.attrs=BK.attrs:=by exact rl G.hP (rl U.a.attrs rfl)
 have hM:c.P.meths=BK.meths:=by exact rl G.hP (rl U.a.meths rfl)
 refine Ab λK nx=>?_;dsimp only[A7,Am,AQ,AF,A6,Al,Ad];refine Lp G U.a hw ?_;unfold Ek at q;cases hwb:GS v with
 |false=>
  rw[hwb,if_neg (λz=>Bool.false_ne_true z.1)]at q;exact⟨rfl,q⟩
 |true=>
 rw[hwb]at q;cases v with
 |int i=>
  show BN _ false [_] _ _ _ _;dsimp only[AT,Ar,Ad];show Aj _ (.lit (.int 1)) _ _ _ _;dsimp only[Aq,Bc,Az];by_cases hi:i<1
  ·refine rl (decide_eq_true hi) ?_;rw[if_neg (λz=>z.2 hi)]at q;exact⟨rfl,q⟩
  refine rl (decide_eq_false hi) ?_;rw[if_pos ⟨rfl,hi⟩]at q;refine nx _ _<|Ab λK nx=>?_;dsimp only[At,Av];refine MB hA ib rfl ?_;dsimp only[Ad];show BJ .Add (.int B.day) (.int i) _ _;dsimp only[C7];refine B9 rfl (by refine rl hA ?_;rfl) ib.hb (by exact(show 4<=100 by decide)) (nx _ _ ?_);have ib1:=ib.setDay (B.day+i);have f1:Fr1 o H o (up H b (.inst "Book" [("day",.int (B.day+i)),("free",.ref f),("aside",.ref s),("pacts",.ref p)])):=FI (by refine rl ib.ob ?_;simp);show Af _ _ _ _ _ _ (up H b (.inst "Book" [("day",.int (B.day+i)),("free",.ref f),("aside",.ref s),("pacts",.ref p)]));generalize up H b (.inst "Book" [("day",.int (B.day+i)),("free",.ref f),("aside",.ref s),("pacts",.ref p)])=H1 at ib1 f1;refine Ab λK nx=>?_;dsimp only[At,AB,An];intro z hz;refine⟨show 2<4 by decide,nx _ _ ?_⟩;refine Ap (ib1.fresh hz (.list [])) λib2 f2=>?_;have hz2:up H1 z (.list []) z=some (.list []):=Ah;have hzo:(λa=>if a=z then none else o a) z=(none:Option Role):=if_pos rfl;generalize(λa=>if a=z then none else o a)=o2 at ib2 f2 hzo;generalize up H1 z (.list [])=H2 at ib2 f2 hz2;have hz0:H z=none:=f1.gr z hz;refine Ab λK nx=>⟨rfl,L8 hA rfl ib2 ok.len rfl λzv o3 H3 hzv0 hzvo hzv ib3 f3=>Ap (GK ib3.ps) λ_ e2=>Ap (f3.old _ _ hz2 hzo) λhz3 hzo3=>?_⟩
  have okd:=Ml (d:=B.day+i) (ok.day (B.day+i));refine CD (xs:=as.map .ref) (Bu hzv) (NH o H b f s p as (B.day+i) {B with day:=B.day+i} (.int i) z zv) ⟨o3,none,rfl,ib3,(f1.trans f2).trans f3,hz3,hzo3,hzv,hzvo,λe=>by rw[e,hz2]at hzv0;trivial⟩ ?_;rintro I hI m V' H' ⟨o',pr,rfl,ib',fr',hz',ho',hv',hvo',hne⟩;refine EU (okd m) λokm hlen hl2 hday=>⟨hv'.trans hzv.symm,λhm=>?_,λy hy=>?_⟩
  ·rw[length_map,e2]at hm;subst hm;refine nx _ _<|Ab λK nx=>?_;dsimp only[Bp];refine Cl hM (by decide) (by decide) ib' rfl<|O0 G U hU hU1 hU2 hU3 ib' okm hz' ho' (le_trans hl2 (le_trans ok.len (by decide))) λz' o'' H'' h1 h2 h3 h4 h5=>?_;rw[hlen]at h3 h4;exact q z' o'' H'' (fr'.gr z' h1) h2 h3 h4 (fr'.trans h5)
  rw[getElem?_map,map_eq_some_iff]at hy;refine e12 hy λa ha z02=>?_;obtain rfl:=z02;obtain⟨x,hx⟩:∃x,(A5 (B.day+i) m {B with day:=B.day+i}).1.pacts[m]? =some x:=⟨_,getElem?_eq_getElem (by refine rl hlen ?_;show m<B.pacts.length;exact rl e2.symm ((AJ ha).1))⟩
  have ip:=ib'.pact hx ha;refine⟨show 3<4 by decide,?_⟩;refine Ab λK2 nx2=>?_;show A4 _ _ _ _ _ [some (.ref b),some (.int i),some (.ref z),some (.ref a)] _;have hstep:=M8 hx;have skip:Em (B.day+i) x=false->I (m+1) [some (.ref b),some (.int i),some (.ref z),some (.ref a)] H':=λh=>by
   rw[h,if_neg Bool.false_ne_true]at hstep;exact hI _ _ _ ⟨o',_,rfl,by refine rl hstep ?_;exact ib',fr',by refine rl hstep ?_;exact hz',ho',hv',hvo',hne⟩
  dsimp only[A7,Am,AQ,Ar];refine Ip hA ip rfl ?_
  (dsimp only[Aq,CF,Az];refine rl Iz ?_)
  cases hs:x.state==Sta.opn with
  |false=>exact nx2 _ _ (skip (by unfold Em;refine rl hs ?_;rfl))
  |true=>
  show BN _ true [_] _ _ _ _;dsimp only[AT,Ar];refine Xb hA ip rfl<|MB hA ib' rfl<|rl hday ?_;dsimp only[Bc,Az];by_cases hlt:x.last<B.day+i
  ·refine rl (decide_eq_true hlt) ?_;have hlb:Em (B.day+i) x=true:=by unfold Em;refine rl hs (rl (decide_eq_true hlt) ?_);rfl
   rw[hlb,if_pos rfl]at hstep;show Af _ _ _ _ _ [some (.ref b),some (.int i),some (.ref z),some (.ref a)] _;refine Ab λK3 nx3=>?_;dsimp only[AP,Ax,Ad];refine⟨?_,?_⟩
   ·show match H' z with|some (.list _)=>_|some (.dict _ _)=>_|_=>False
    exact rl hz' (.inl rfl)
   dsimp only[Al];refine Cl hM (by decide) (by decide) ib' rfl ?_;dsimp only[Al,Ad];show Ay _ [] _ _ _ _;refine Eq.mpr (An)<|Mo G U hU2 hU3 ib' okm hx ha λo4 H4 ib4 f4=>Ap (f4.old _ _ hz' ho') λhz4 hzo4=>Ap (f4.old _ _ hv' hvo') λhv4 hvo4=>rl An<|DJ hz4 (rl AO (le_trans hl2 (le_trans (le_of_lt (AJ hx).1) (le_trans (le_of_eq hlen) (le_trans ok.len (by decide)))))) (nx3 _ _ (nx2 _ _ ?_));refine rl txs_snoc<|hI _ _ _ ⟨o4,_,rfl,by refine rl hstep ?_;exact ib4.upN hzo4 _,⟨λy v hy hyo=>?_,λy h=>(fr'.trans f4).gr y (Cm h)⟩,by refine rl hstep ?_;exact Ah,hzo4,by refine rl (Ag hne) ?_;exact hv4,hvo4,hne⟩;have:=(fr'.trans f4).old y v hy hyo;exact⟨by refine rl (Ag (λe=>by rw[e,hz0]at hy;trivial)) ?_;exact this.1,this.2⟩
  ·exact rl (decide_eq_false hlt)<|nx2 _ _ (skip (by unfold Em;exact rl (decide_eq_false hlt ..) (rl (Bool.and_false ..) rfl)))
 |_=>trivial
end
section
variable(G:Gd c P)(U:Bt P)
include G U
theorem RG(hU:P.fns.lookup "Book.full"=some BK.Zz)(hU2:P.fns.lookup "Pact.is_full"=some BK.Za)(hb:H b=some (.book B))(ok:BkOK B)(kv:Kn H v)(q:match BY B v with|some (j,x)=>Q (.bool (CX x)) H|none=>E "NoPact" H):CallOK c (n+3) true "Book.full" [.ref b,v] Q E H:=by
 refine D_ hb λH₂ o f s p as ib hold=>VG G U hU hU2 ib ok (kv.open hb hold) ?_;revert q;cases BY B v with
 |some e=>exact λq=>⟨o,f,s,p,as,B,ib,.refl,.inl ⟨(λ_ h=>by trivial),by exact rl (DB hb) q⟩⟩
 |none=>exact λq=>⟨o,f,s,p,as,B,ib,.refl,by exact rl (DB hb) q⟩
theorem Yo(hU0:P.fns.lookup "Book.pass_days"=some BK.Z0)(hU:P.fns.lookup "Book.dragged"=some BK.Zh)(hU1:P.fns.lookup "Book.first_dragged"=some BK.Zf)(hU2:P.fns.lookup "Book.fell"=some BK.Ze)(hU3:P.fns.lookup "Book.given_back"=some BK.Zb)
  (hb:H b=some (.book B))(ok:BkOK B)(kw:Kn H v)(q:match Ek B v with| .ok r=>∀z,H z=none->Q (.ref z) (up (up H b (.book r.1)) z (.list (Ae r.2)))| .error cl=>E cl H):CallOK c (n+4) true "Book.pass_days" [.ref b,v] Q E H:=by
 refine D_ hb λH₂ o f s p as ib hold=>Vi G U hU0 hU hU1 hU2 hU3 ib ok (kw.open hb hold) ?_;revert q;cases Ek B v with
 |ok r=>exact λq z o' H' hz ho hz' ib' fr=>⟨o',f,s,p,as,r.1,ib',fr,.inr ⟨z,_,rfl,Gg G U.a hb ib hold hz,hz',ho,q z (Gg G U.a hb ib hold hz)⟩⟩
 |error cl=>exact λq=>⟨o,f,s,p,as,B,ib,.refl,by exact rl (DB hb) q⟩
end
theorem M5:hs l k=decide (k∈l.map (·.1)):=by
 unfold hs lk;rw[isSome_map,Bool.eq_iff_iff,List.find?_isSome];simp
def Kb(b:Addr)(H H':Ac):Prop:=∀a x,a≠b->H a=some x->H' a=some x
theorem Kb.refl:Kb b H H:=λ_ _ _ h=>h
theorem Kb.trans(x:Kb b H H')(y:Kb b H' H''):Kb b H H'':=λa o n h=>y a o n (x a o n h)
theorem Kb.ext(x:Ext H H'):Kb b H H':=λa o _ h=>x a o h
theorem Kb.up:Kb b H (Internal.up H b y):=λa o n h=>by exact rl (Ag n) h
theorem Db(hP:g.c.P.meths=BK.meths)(hm:BK.meths.contains ("Book",m)=true)(hn:bookAttrs.contains m=false)(hb:H b=some (.book B))(hV:V[i]? =some (some (.ref b)))
  (q:Ay g xs V (λvs H=>CallOK g.c g.n g.md ("Book."++m) (.ref b::vs) Q E H) E H):Aj g (.meth (.var i) m xs) V Q E H:=by
 dsimp only[BE,Ad];refine rl hV ?_;dsimp only;exact rl hb ⟨rl hP hm,hn,q⟩
theorem pairsH.ext(hE:Ext H H'):∀{ts:List Addr} {l:List (AV×AV)},pairsH H ts l->pairsH H' ts l
 |[],[],_=>trivial
 |_::_,_::_,h=>⟨⟨rfl,hE _ _ h.1.2.1,h.1.2.2⟩,pairsH.ext hE h.2⟩
 |[],_::_,h=>h.elim
 |_::_,[],h=>h.elim
theorem Kv.str(h:s.length<2 ^ 62):Kv (.str s):=⟨(λa h=>by cases h),λt e=>by cases e;exact h⟩
theorem Kv.int:Kv (.int i):=⟨(λa h=>by trivial),λt e=>by trivial⟩
noncomputable def dV:AV->PyData
 | .none=>.none
 | .bool b=>.bool b
 | .int i=>.int i
 | .str s=>.str s
 | .ref _=>.none
theorem Rg(h:Kv v):RD H v (dV v):=by
 cases v with
 |none=>exact .none
 |bool b=>exact .bool b
 |int i=>exact .int i
 |str s=>exact .str s
 |ref a=>exact absurd rfl (h.nr a)
theorem Qp:Fr (dV v)=true:=by cases v<;>rfl
theorem Wo:(dV v).depth=0:=by cases v<;>rfl
noncomputable def Hh(e:AV×AV):PyData:=.tuple [dV e.1,dV e.2]
theorem LO:∀{ts:List Addr} {l:List (AV×AV)},pairsH H ts l->DX H (ts.map AV.ref) (l.map Hh)
 |[],[],_=>.nil
 |_::_,_::_,h=>.cons (.tuple h.1.2.1 (.cons (Rg h.1.2.2.1) (.cons (Rg h.1.2.2.2) .nil))) (LO h.2)
 |[],_::_,h=>h.elim
 |_::_,[],h=>h.elim
theorem LZ:∀{l:List (AV×AV)},Dr (l.map Hh)=true
 |[]=>rfl
 |e::r=>by show((Fr (dV e.1)&&(Fr (dV e.2)&&true))&&Dr (r.map Hh))=true;refine rl Qp (rl Qp (rl LZ ?_));rfl
theorem LI:∀{l:List (AV×AV)},PyData.depthAll (l.map Hh)<=1
 |[]=>zero_le _
 |e::r=>by
  have:(Hh e).depth<=1:=by simp[Hh,PyData.depth,PyData.depthAll,Wo]
  exact Nat.max_le.mpr ⟨this,LI⟩
theorem G5:∀{ts:List Addr} {l:List (AV×AV)},pairsH H ts l->ts.length=l.length
 |[],[],_=>rfl
 |_::_,_::_,h=>congrArg Nat.succ (G5 h.2)
 |[],_::_,h=>h.elim
 |_::_,[],h=>h.elim
noncomputable def vl(l:List (Str×Int))(s:Str):Int:=(lk l s).getD 0
noncomputable def EV(ps:List (Str×Int))(s:Str):Int:=(ps.map λe=>if e.1=s then e.2 else 0).sum
theorem VC:EV (e::ps) s=(if e.1=s then e.2 else 0)+EV ps s:=rfl
theorem JR(h:hs l k=true):(pt l k v).map (·.1)=l.map (·.1):=by
 unfold pt;refine rl (if_pos (show(lk l k).isSome=true from h)) (rl map_map ?_);apply map_congr_left;intro e _;show(if e.1=k then(e.1,v) else e).1=e.1;split<;>rfl
theorem Su:vl (pt l k v) s=if s=k then v else vl l s:=by
 unfold vl;refine rl N9 ?_;split<;>rfl
theorem X9(h:l.map (·.1)=l'.map (·.1)):hs l k=hs l' k:=by exact rl M5 (rl M5 (rl h rfl))
structure Dif(l l':List (Str×Int))(d:Str->Int):Prop where
 k:l'.map (·.1)=l.map (·.1)
 v:∀s,vl l' s=vl l s+d s
theorem Dif.refl:Dif l l λ_=>0:=⟨rfl,λ_=>(add_zero _).symm⟩
theorem Dif.trans(a:Dif l l' d)(b:Dif l' l'' d'):Dif l l'' λs=>d s+d' s:=⟨b.k.trans a.k,λs=>by exact rl (b.v ..) (rl (a.v ..) (rl (Int.add_assoc ..) rfl))⟩
theorem Dif.of(a:Dif l l' d)(h:∀s,d s=d' s):Dif l l' d':=⟨a.k,λs=>by exact rl (a.v ..) (rl (h ..) rfl)⟩
theorem Dif.pt{l:List (Str×Int)}{k}(h:hs l k=true):Dif l (Internal.pt l k ((lk l k).getD 0+i)) λs=>if k=s then i else 0:=⟨JR h,λs=>by
 refine rl Su ?_;by_cases e:s=k
 ·refine rl (if_pos e) (rl (if_pos e.symm) (rl e ?_));rfl
 ·exact rl (if_neg e ..) (rl (if_neg λq=>e q.symm ..) (rl (add_zero ..) rfl))⟩
theorem Dif.hs{l l':List (Str×Int)}{d:Str->Int}(a:Dif l l' d){k}:Internal.hs l' k=Internal.hs l k:=X9 a.k
theorem QF{l l':List Str}(nd:l.Nodup)(h:∀k∈l,k∈l'):l.length<=l'.length:=by
 induction l generalizing l' with
 |nil=>exact zero_le _
 |cons a l ih=>
  refine Ap (nodup_cons.mp nd) λh1 h2=>?_;have ha:=h a (.head _);have:=ih (l':=l'.erase a) h2 λk hk=>(List.mem_erase_of_ne (show k≠a from λq=>h1 (q▸hk))).mpr (h k (.tail _ hk));rw[List.length_erase_of_mem ha]at this;have h0:0<l'.length:=List.length_pos_of_mem ha;show l.length+1<=l'.length;exact KN h0 this
noncomputable def held(x:Pc):List (Str×Int):=x.parts.filter λe=>decide (e.1∈x.inside)
noncomputable def CZ(x:Pc)(st:Sta):List (Str×Int):=if st = .dn then x.gains else held x
noncomputable def MX(x:Pc)(st:Sta):List (Str×Int):=if st = .dn then x.parts else held x
noncomputable def Pc.end(x:Pc)(st:Sta):Pc:={x with inside:=[],state:=st}
structure IO(B B':Bk)(j:Nat)(x:Pc)(st:Sta):Prop where
 at_:B.pacts[j]? =some x
 op:x.state = .opn
 hw:st = .fln\/st = .dn/\CX x=true
 ps:B'.pacts=B.pacts.set j (x.end st)
 f:Dif B.free B'.free (EV (CZ x st))
 a:Dif B.aside B'.aside λs=>- EV (MX x st) s
theorem Dif.sub{l:List (Str×Int)}{k}(h:Internal.hs l k=true):Dif l (Internal.pt l k ((lk l k).getD 0 - i)) λs=>- (if k=s then i else 0):=(Dif.pt (i:=- i) h).of λs=>by split<;>rfl
theorem Qf:- (if e.1=s then e.2 else 0) + - EV ps s= - EV (e::ps) s:=by(dsimp only[VC];exact rl Int.neg_add rfl)
theorem VF(h:∀e∈l,hs B.free e.1=true/\hs B.aside e.1=true):Dif B.free (D7 ins l B).free (EV (l.filter λe=>decide (e.1∈ins)))/\Dif B.aside (D7 ins l B).aside λs=>- EV (l.filter λe=>decide (e.1∈ins)) s:=by
 induction l generalizing B with
 |nil=>exact⟨.refl,.refl⟩
 |cons e l ih=>
  refine Ap (h e (.head _)) λh1 h2=>?_;rw[QM];by_cases q:e.1∈ins
  ·refine rl (if_pos q) (rl filter_cons (rl (if_pos (decide_eq_true q)) ?_));have d1:=Dif.pt (i:=e.2) h1;have d2:=Dif.sub (i:=e.2) h2;exact Ap (ih (B:=Go B e.1 e.2) λy hy=>⟨d1.hs.trans (h y (.tail _ hy)).1,d2.hs.trans (h y (.tail _ hy)).2⟩) λg1 g2=>⟨d1.trans g1,(d2.trans g2).of λs=>Qf⟩
  ·exact rl (if_neg q) (rl filter_cons (rl (if_neg (λz=>q (of_decide_eq_true z))) (ih λy hy=>h y (.tail _ hy))))
theorem Qa:∀{l:List (Str×Int)} {B:Bk},(∀e∈l,hs B.aside e.1=true)->(payAll l B).free=B.free/\Dif B.aside (payAll l B).aside λs=>- EV l s
 |[],B,_=>⟨rfl,.refl⟩
 |e::l,B,h=>by
  have d:=Dif.sub (i:=e.2) (h e (.head _));exact Ap (Qa (l:=l) (B:={B with aside:=pt B.aside e.1 ((lk B.aside e.1).getD 0 - e.2)}) λy hy=>d.hs.trans (h y (.tail _ hy))) λg1 g2=>⟨g1,(d.trans g2).of λs=>Qf⟩
theorem PE:∀{l:List (Str×Int)} {B:Bk},(∀e∈l,hs B.free e.1=true)->Dif B.free (gainAll l B).free (EV l)/\(gainAll l B).aside=B.aside
 |[],B,_=>⟨.refl,rfl⟩
 |e::l,B,h=>by
  have d:=Dif.pt (i:=e.2) (h e (.head _));exact Ap (PE (l:=l) (B:={B with free:=pt B.free e.1 ((lk B.free e.1).getD 0+e.2)}) λy hy=>d.hs.trans (h y (.tail _ hy))) λg1 g2=>⟨d.trans g1,g2⟩
theorem LC(ok:BkOK B)(hj:B.pacts[j]? =some x)(ho:x.state = .opn):IO B (CN B j x) j x .fln:=
 have d:=VF (ins:=x.inside) (ok.giveAble hj)
 ⟨hj,ho,.inl rfl,rfl,d.1,d.2⟩
theorem TO(ok:BkOK B)(hj:B.pacts[j]? =some x)(hf:CX x=true):IO B (FM B j x) j x .dn:=by
 have d1:=Qa (l:=x.parts) (B:=B) λe he=>(ok.giveAble hj e he).2;have d2:=PE (l:=x.gains) (B:=payAll x.parts B) λe he=>by exact rl d1.1 (ok.purse j x hj e (.inr he))
 rw[d1.1]at d2;exact⟨hj,beq_iff_eq.mp (Bool.and_eq_true _ _▸hf:_/\_).1,.inr ⟨rfl,hf⟩,rfl,d2.1,by exact rl (show(FM B j x).aside=(payAll x.parts B).aside from d2.2) d1.2⟩
theorem Xc(h:ps[j]? =some x)(e:x'.name=x.name)(hp:AU ps k=some (m,y))(hm:m≠j):AU (ps.set j x') k=some (m,y):=by
 induction ps generalizing j m with
 |nil=>cases h
 |cons q r ih=>
  rw[Du]at hp;cases j with
  |zero=>
   cases h;show AU (x'::r) k=_;rw[Du];by_cases z:x.name=k
   ·rw[if_pos z]at hp;cases hp;exact absurd rfl hm
   ·rw[if_neg z]at hp;refine rl (if_neg (by rw[e];exact z)) ?_;exact hp
  |succ j=>
   show AU (q::r.set j x') k=_;rw[Du];by_cases z:q.name=k
   ·rw[if_pos z]at hp⊢;exact hp
   ·rw[if_neg z]at hp⊢;refine e12 (map_eq_some_iff.mp hp) λz00 h1 h2=>?_;obtain⟨m',y'⟩:=z00;cases h2;refine rl (ih h h1 λq=>hm (congrArg (· + 1) q)) ?_;rfl
section
variable{P:Bk->Prop}(ok:∀{B},P B->BkOK B)(st:∀{B B' j x},P B->IO B B' j x .fln->P B')
include ok st
theorem LF:∀{n:Nat} {B:Bk} {l:List Str},P B->P (Dp n B l).1
 | 0,_,_,h=>h
 |n+1,B,l,h=>by
  cases e:CV B with
  |none=>exact rl (Lo e) h
  |some w=>
   exact Ap (Mp (m:=w.1) (x:=w.2) e) λh1 h2=>rl (Ln e) (LF (st h (LC (ok h) h1 (beq_iff_eq.mp (Bool.and_eq_true _ _▸h2:_/\_).1))))
theorem Jz(h:P B):∀m,P (A5 d m B).1
 | 0=>h
 |m+1=>by
  rcases Qm (d:=d) (m:=m) (B:=B)with e|⟨x,hx,hl,e⟩
  ·exact rl e (Jz h m)
  ·exact rl e<|st (Jz h m) (LC (ok (Jz h m)) hx (beq_iff_eq.mp (Bool.and_eq_true _ _▸hl:_/\_).1))
theorem VS(h:P B)(e:Bs B w = .ok r):P r.1:=by
 unfold Bs at e;cases hy:BY B w with
 |none=>rw[hy]at e;trivial
 |some y=>
  rw[hy]at e;dsimp only at e;by_cases ho:y.2.state = .opn
  ·rw[if_pos ho]at e;cases e;exact LF ok st (st h (LC (ok h) (Ig (x:=y.2) (j:=y.1) hy) ho))
  ·rw[if_neg ho]at e;trivial
theorem U2(hd:∀{B} d,P B->P {B with day:=d})(h:P B)(e:Ek B w = .ok r):P r.1:=by
 unfold Ek at e;split at e
 ·cases e;exact LF ok st (Jz ok st (hd _ h) _)
 ·trivial
end
section
variable{P:Bk->Prop}(ok:∀{B},P B->BkOK B)(st:∀{B B' j x},P B->IO B B' j x .dn->P B')
include ok st
theorem Oa:∀{g:List Str} {B:Bk},P B->g.Nodup->(∀k∈g,∃e:Nat×Pc,AU B.pacts k=some e/\CX e.2=true)->P (C0 g B)
 |[],_,h,_,_=>h
 |k::g,B,h,nd,hf=>by
  refine e12 (hf k (.head _)) λz10 h1 h2=>?_;obtain⟨j,x⟩:=z10;refine Ap (nodup_cons.mp nd) λn1 n2=>?_;have hg:=D5 h1;rw[LM];refine rl h1<|Oa (st h (TO (ok h) hg.1 h2)) n2 λk' hk'=>?_;refine e12 (hf k' (.tail _ hk')) λz20 h3 h4=>?_;obtain⟨m,y⟩:=z20;refine⟨(m,y),Xc hg.1 rfl h3 λq=>n1 ?_,h4⟩;have hy:=D5 h3;rw[q,hg.1]at hy;exact rl hg.2.symm (rl (Ak hy.1) (rl hy.2 hk'))
end
theorem Oy{ps:List Pc}(nd:(ps.map (·.name)).Nodup){g:List Str}(hs:g.Sublist (AG ps)):g.Nodup/\∀k∈g,∃e:Nat×Pc,AU ps k=some e/\CX e.2=true:=by
 refine⟨(hs.trans (filter_sublist.map _)).nodup nd,λk hk=>?_⟩;refine e12 (mem_map.mp (hs.subset hk)) λx hx z32=>?_;obtain rfl:=z32;refine Ap (mem_filter.mp hx) λhx hf=>?_;obtain⟨j,hj,e⟩:=mem_iff_getElem.mp hx;exact⟨(j,x),GA nd (by exact rl (getElem?_eq_getElem hj) (rl e rfl)),hf⟩
theorem DN(h:l.map (·.1)=pur):hs l k=true↔k∈pur:=by rw[M5,h,decide_eq_true_eq]
theorem P7{α β:Type}{f:α->β}{l:List α}{j}{x y}(h:l[j]? =some x)(e:f y=f x):(l.set j y).map f=l.map f:=by
 induction l generalizing j with
 |nil=>rfl
 |cons a l ih=>
  cases j with
  |zero=>obtain rfl:=Ak h;refine rl set_cons_zero (rl map_cons (rl e ?_));rfl
  |succ j=>exact rl set_cons_succ (rl map_cons (rl map_cons (rl (ih h) rfl)))
theorem IH(hz:H z=some (.range 0 m))(J:Nat->VV->Ac->Prop)(h0:J 0 V H)
  (hs:∀I:Nat->VV->Ac->Prop,(∀k V' H',J k V' H'->I k V' H')->∀k V' H',J k V' H'->H' z=some (.range 0 m)/\(k=m.toNat->QN V' H')/\(k<m.toNat->stp (.int k) (I (k+1)) V' H')):Bq QN stp (.ref z) V H:=by
 refine CD (xs:=(List.range (m - 0).toNat).map λ(k:Nat)=>AV.int (0+k)) (I0 hz) J h0 λI hI k V' H' hJ=>?_;have t7156:=hs I hI k V' H' hJ;have h1:=t7156.1;have h2:=t7156.2.1;have h3:=t7156.2.2;have hl:((List.range (m - 0).toNat).map λ(k:Nat)=>AV.int (0+k)).length=m.toNat:=by exact rl (length_map ..) (rl (length_range ..) (rl (sub_zero ..) rfl))
 refine⟨h1.trans hz.symm,λe=>h2 (e.trans hl),λx hx=>?_⟩;rw[getElem?_map,map_eq_some_iff]at hx;refine e12 hx λj hj z02=>?_;obtain rfl:=z02;have t7158:=AJ hj;have hj1:=t7158.1;have hj2:=t7158.2;rw[getElem_range]at hj2;rw[length_range,sub_zero]at hj1;exact rl (Eq.symm (hj2 ..)) (rl (Int.zero_add ..) (h3 hj1))
set_option tactic.hygienic true in
theorem Gn(h0:0<=m)(h1:m<=100000)(q:∀z H',H z=none->Ext H H'->H' z=some (.range 0 m)->Q (.ref z) H'):BS md .range [.int m] Q H:=by
 exact rl JO (⟨⟨Int.lt_of_lt_of_le (by decide) h0,by exact Int.lt_of_le_of_lt (by assumption) (by decide)⟩,λz hz=>q z _ hz (Ext.refl.new hz) Ah⟩)
noncomputable def P2(l:List (Str×Int)):List (AV×AV):=l.map λe=>(.str e.1,.int e.2)
theorem FG:(P2 l).length=l.length:=length_map _
theorem NV(ht:H t=some (.tuple [v,w]))(kv:Kv v)(kw:Kv w):∀{ts:List Addr} {l:List (AV×AV)},pairsH H ts l->pairsH H (ts++[t]) (l++[(v,w)])
 |[],[],_=>⟨⟨rfl,ht,kv,kw⟩,trivial⟩
 |_::_,_::_,h=>⟨h.1,NV ht kv kw h.2⟩
 |[],_::_,h=>h.elim
 |_::_,[],h=>h.elim
theorem pairsH.keep(k:∀a v,H a=some (.tuple v)->H' a=some (.tuple v)):∀{ts:List Addr} {l:List (AV×AV)},pairsH H ts l->pairsH H' ts l
 |[],[],_=>trivial
 |_::_,_::_,h=>⟨⟨rfl,k _ _ h.1.2.1,h.1.2.2⟩,pairsH.keep k h.2⟩
 |[],_::_,h=>h.elim
 |_::_,[],h=>h.elim
inductive PL(H:Ac)(a:Addr)(l:List (Str×Int)):Prop
 |mk (ts:List Addr) (h:H a=some (.list (ts.map .ref))) (p:pairsH H ts (P2 l))
theorem PL.ext(p:PL H a l)(e:Ext H H'):PL H' a l:=let ⟨ts,h,p⟩:=p;⟨ts,e _ _ h,p.ext e⟩
theorem PV:∀{ts:List Addr} {l:List (Str×Int)},pairsH H ts (P2 l)->(ts.map AV.ref).filterMap (EC H)=(l.map (·.2)).map AV.int
 |[],[],_=>rfl
 |t::ts,e::l,h=>by
  rw[map_cons,filterMap_cons,J4 h.1.2.1,map_cons,map_cons,<-PV h.2]
 |[],_::_,h=>h.elim
 |_::_,[],h=>h.elim
theorem X5(hmd:g.md=true)(hm:V.length+1=m)(hV:V[i]? =some (some (.ref z)))(hz:PL H z l)(hl:l.length<=1000)
  (q:∀H',Ext H H'->Q (.int (Bj l)) H'):Aj g (.prim .sum [.comp (.var m) 2 true (.var i) none]) V Q E H:=by
 obtain⟨ts,hz,hu⟩:=hz;refine rl A1 (rl Al (rl Bl (rl Ad (rl hV ⟨hmd,Ib (xs:=ts.map .ref) (Bu hz) (rl (length_map ..) (rl (G5 hu ..) (rl (FG ..) (le_trans hl (by decide))))) (EC H) (λy hy H' hE nx hnx=>?_) λa H' hE ha=>?_⟩))))
 ·refine e12 (mem_map.mp hy) λt ht z12=>?_;obtain rfl:=z12;obtain⟨j,hj,rfl⟩:=mem_iff_getElem.mp ht;refine e15 (Jt hu (getElem?_eq_getElem hj)) λe he _ htt k1 k2=>?_;have hnx:=hnx H' .refl;rw[J4 htt]at hnx;refine rl (if_pos rfl) ?_;show CI 2 (.ref _) H' _;unfold CI;dsimp only;refine rl (hE _ _ htt) ⟨rfl,rl CR (rl (if_pos rfl) (rl Ad (rl hm.symm (rl (getElem?_append_right (le_succ _)) (rl (show V.length+1 - V.length=1 from Nat.add_sub_self_left ..) ?_)))))⟩;exact hnx
 ·refine rl An (rl IC (rl hmd (rl Ah ?_)));refine⟨rfl,l.map (·.2),PV hu,?_⟩;exact q _ (hE.new ha)
noncomputable def Bk.af(B:Bk):Except String Bk->Bk
 | .ok B'=>B'
 | .error _=>B
section
variable{α:Type}{xs:List α}
theorem TD(a m:Nat)(h:a+m<=xs.length):((List.range m).map λ(k:Nat)=>((a:Int)+1*(k:Int)).toNat).filterMap (xs[·]?)=(xs.drop a).take m:=by
 induction m with
 |zero=>refine rl take_zero ?_;rfl
 |succ m ih=>
  have hlt:a+m<xs.length:=h;refine rl range_succ (rl map_append (rl List.filterMap_append (rl (ih (le_of_lt hlt)) (rl take_add_one (rl (List.getElem?_drop) ?_)))));congr 1;show[((a:Int)+1*(m:Int)).toNat].filterMap _=_;refine rl (show((a:Int)+1*(m:Int)).toNat=a+m from KZ) (rl filterMap_cons (rl (getElem?_eq_getElem hlt) ?_));rfl
theorem P_{lo hi st:Option Int}{a b:Nat}(hb:sliceBounds lo hi st xs.length=((a:Int),(b:Int),1))(h:a<=b)(h':b<=xs.length):DO xs lo hi st=(xs.drop a).take (b - a):=by
 unfold DO;refine rl hb ?_;unfold sliceRange;dsimp only;refine rl (if_pos (by decide)) ?_;by_cases e:a=b
 ·refine rl (if_neg (by lia) ..) (rl (e ..) (rl (sub_self ..) (rl (take_zero ..) ?_)));rfl
 ·exact rl (if_pos (by lia) ..) (rl (show((b:Int) - a+1 - 1) / 1=((b - a:Nat):Int) by lia) (rl (toNat_natCast ..) (TD a (b - a) (KS h h'))))
theorem LE{m:Nat}:DO xs none (some (m:Int)) none=xs.take m:=by
 have:=P_ (xs:=xs) (lo:=none) (hi:=some (m:Int)) (st:=none) (a:=0) (b:=min m xs.length) (by
  unfold sliceBounds;dsimp only[Option.getD];simp only[show ¬ ((m:Int)<0) from by lia,show((1:Int) > 0) from by decide,if_true,if_false];congr 2;lia) (zero_le _) (min_le_right _ _)
 refine rl (this ..) (rl (drop_zero ..) (rl (Nat.sub_zero ..) ?_));by_cases h:m<=xs.length
 ·exact rl (min_eq_left h) rfl
 ·exact rl (Nat.min_eq_right (Nat.le_of_not_ge h)) (rl take_length (rl (take_of_length_le (Nat.le_of_not_ge h)) rfl))
theorem OI{m:Nat}(h:m<=xs.length):DO xs (some (m:Int)) none none=xs.drop m:=by
 have:=P_ (xs:=xs) (lo:=some (m:Int)) (hi:=none) (st:=none) (a:=m) (b:=xs.length) (by
  unfold sliceBounds;dsimp only[Option.getD];simp only[show ¬ ((m:Int)<0) from by lia,show((1:Int) > 0) from by decide,if_true,if_false];congr 1;lia) h (le_refl _)
 exact rl this (rl (take_of_length_le (by rw[length_drop];exact le_refl _)) rfl)
end
theorem Ic{Q:AV->Ac->Prop}{H:Ac}{a:Addr}{xs}{lo hi st}{l u t}(h:H a=some (.list xs))(hl:EQ lo=some l)(hu:EQ hi=some u)(ht:EQ st=some t)(h0:t≠some 0)(hz:xs.length<=1000)
  (q:∀z H',Ext H H'->H z=none->H' z=some (.list (DO xs l u t))->Q (.ref z) H'):EK (.ref a) lo hi st Q H:=by
 exact rl Q7 (rl h ⟨l,u,t,hl,hu,ht,h0,le_trans hz (by decide),λz hz=>q z _ (Ext.refl.new hz) hz Ah⟩)
theorem Ms(h0:0<=i)(h1:i<26):letters.cps.toList.contains (CH i)=true:=by
 have hlt:i.toNat<letters.cps.size:=by refine rl NQ ?_;exact Jp h1
 have:CH i=letters.cps[i.toNat]:=by simp[CH,hlt]
 rw[this,contains_iff_mem];exact Array.mem_toList_iff.mpr (Array.getElem_mem hlt)
theorem J3(r:Int):∀j,∀ch∈(CG r j).1,letters.cps.toList.contains ch=true
 | 0=>by intro ch h;cases h
 |j+1=>by
  intro ch h;rcases mem_append.mp h with h|h
  ·exact J3 r j ch h
  ·rw[mem_singleton]at h;subst h;exact Ms (BD ((by decide))) (BV ((by decide)))
theorem Pt:∀ch∈Cn k,letters.cps.toList.contains ch=true:=by
 intro ch h;simp only[Cn,mem_cons,not_mem_nil,or_false]at h;rcases h with rfl|rfl<;>exact Ms (BD (by omega)) (BV (by omega))
set_option tactic.hygienic true in
theorem WD(hk:0<=k):A9 (BL k cl)=true:=by
 have h1:∀ch∈CM k cl,letters.cps.toList.contains ch=true:=by
  unfold CM;intro ch h;split at h
  ·dsimp only at h;split at h
   ·rename_i z;rw[mem_singleton]at h;subst h;exact Ms hk z.2
   ·rcases mem_append.mp h with h|h
    ·exact Pt ch h
    ·exact J3 _ _ ch h
  ·dsimp only at h;rcases mem_append.mp h with h|h
   ·rcases mem_append.mp h with h|h
    ·exact J3 _ _ ch (mem_of_mem_take h)
    ·exact Pt ch h
   ·exact J3 _ _ ch (List.mem_of_mem_drop h)
 have h2:1<=(BL k cl).length:=by
  show 1<=(CM k cl).toArray.size;unfold CM;simp only[size_toArray];split
  ·split<;>simp[Cn]<;>lia
  ·simp[Cn];exact Kz
 have h3:(BL k cl).length<=12:=Vo;unfold A9;refine rl (Bool.and_eq_true ..) ⟨by simp[h2,h3],all_eq_true.mpr λch hc=>h1 ch ?_⟩;simpa[BL]using hc
theorem Kv.nm(h:A9 s=true):Kv (.str s):=.str (by
 unfold A9 at h;rw[Bool.and_eq_true,decide_eq_true_eq]at h;exact lt_of_le_of_lt h.1.2 (by decide))
noncomputable def EL(cl:Int)(m:Nat):List Str:=(List.range m).map λk=>BL (k:Nat) cl
theorem Vm:∀s∈EL cl m,A9 s=true:=λs h=>by
 obtain⟨k,_,rfl⟩:=mem_map.mp h;exact WD (natCast_nonneg k)
theorem Vn(hm:m<=600):(EL cl m).Nodup:=by
 unfold EL;refine List.pairwise_map.mpr ((List.nodup_range (n:=m)).imp_of_mem λ{a b} ha hb h e=>h ?_);have h1:=mem_range.mp ha;have h2:=mem_range.mp hb;have:=Vp (natCast_nonneg a) (FW h1 hm) (natCast_nonneg b) (FW h2 hm) e;lia
section
variable(G:Gd c P)
theorem GM(ha:H a=some (.list xs))(hb:H b=some (.list ys))(hs:xs.length+ys.length<=1000)(q:∀z,H z=none->Q (.ref z) (up H z (.list (xs++ys)))):BJ .Add (.ref a) (.ref b) Q H:=by
 show match H a,H b with|some (.list xs),some (.list ys)=>_|_,_=>False
 exact rl ha (rl hb ⟨le_trans hs (by decide),q⟩)
include G
theorem Vl(h1:P.fns.lookup "_law_word"=some (JY nm))(h2:P.fns.lookup "_law_mixed"=some BK.Zj)(h3:P.fns.lookup "_law_cell_at"=some BK.Z1)(hi:0<=i)(hm:m<=600)(hx:V.length=x)(h0:V[0]? =some (some (.ref sp)))(hs:H sp=some (.script ns))(hl:ns.length<=63)
  (he:∀Q E,Q (.int m) H->Aj ⟨c,n+2,true⟩ e V Q E H)(q:∀H' z,Ext H H'->H' z=some (.list (Ae (EL (cell ns i.toNat) m)))->Q (.ref z) H') :
  Aj ⟨c,n+2,true⟩ (.comp (.call "_law_word" [.var x,.call "_law_cell_at" [.var 0,.lit (.int i)]]) 1 false (.prim .range [e]) none) V Q E H:=by
 refine rl Bl ⟨rfl,rl A1 (rl Al (he _ _ (rl An (Gn (natCast_nonneg m) (by lia) λz H1 hz E1 hr=>?_))))⟩;have hl0:((List.range ((m:Int) - 0).toNat).map λ(k:Nat)=>AV.int (0+k)).length=m:=by exact rl (length_map ..) (rl (length_range ..) (rl (sub_zero ..) (rl (toNat_natCast ..) rfl)))
 refine⟨(List.range ((m:Int) - 0).toNat).map λ(k:Nat)=>AV.int (0+k),I0 hr,by refine rl hl0 ?_;exact le_trans hm (by decide),λk acc H'=>Ext H1 H'/\acc=Ae (EL (cell ns i.toNat) k),⟨.refl,rfl⟩,?_⟩;rintro k acc H' ⟨hE,rfl⟩;refine⟨(hE _ _ hr).trans hr.symm,λhk a ha=>?_,λy hy=>?_⟩
 ·exact rl hk (rl hl0 (q _ a ((E1.trans hE).new ha) Ah))
 rw[getElem?_map,map_eq_some_iff]at hy;obtain⟨j,hj,rfl⟩:=hy;obtain⟨hj1,hj2⟩:=AJ hj;rw[getElem_range]at hj2;rw[length_range,sub_zero,toNat_natCast]at hj1;refine rl (Eq.symm (hj2 ..)) (rl (Int.zero_add ..) (rl (if_neg Bool.false_ne_true ..) (rl (CR ..) (rl (if_pos rfl ..) (rl (A6 ..) (rl (Al ..) (rl (Ad ..) (rl (Eq.symm (hx ..)) (rl (getElem?_append_right (le_refl _) ..) (rl (sub_self ..) ?_))))))))));show Ay _ [_] _ _ _ _;refine rl Al (rl A6 (rl Al (rl Ad (rl (getElem?_append_left (AJ h0).1) (rl h0 ?_)))));refine GL (n:=n+1) G h3 hi (hE _ _ (E1 _ _ hs)) (lt_of_le_of_lt hl (by decide))<|rl An<|WC G h1 h2 (natCast_nonneg k) (FW hj1 hm) λH2 E2=>⟨hE.trans E2,?_⟩
 unfold EL;exact rl range_succ (rl map_append txs_snoc)
end
section
variable{pur:List Str}{c:Int}{k:Nat}
noncomputable def Cc(pur:List Str)(c:Int)(j:Nat):Str:=pur.getD ((c+j).fmod pur.length).toNat (ofString "")
noncomputable def FP(pur:List Str)(c:Int)(k:Nat):List Str:=(List.range k).map (Cc pur c)
theorem PN:FP pur c (k+1)=FP pur c k++[Cc pur c k]:=by
 unfold FP;refine rl range_succ (rl map_append ?_);rfl
theorem PW(h:0<pur.length):((c+j).fmod pur.length).toNat<pur.length:=by
 have h0:=BD (x:=c+j) (m:=pur.length) (ofNat_lt.mpr h);have h1:=BV (x:=c+j) (m:=pur.length) (ofNat_lt.mpr h);exact(Int.toNat_lt h0).mpr h1
theorem JI(h:0<pur.length){j:Nat}:pur[((c+j).fmod pur.length).toNat]? =some (Cc pur c j):=by
 unfold Cc;refine rl (List.getD_eq_getElem?_getD) (rl (getElem?_eq_getElem (PW h)) ?_);rfl
theorem J6(h:0<pur.length):Cc pur c j∈pur:=mem_of_getElem? (JI h)
theorem XI(h:0<pur.length)(hs:s∈FP pur c k):s∈pur:=by
 refine e12 (mem_map.mp hs) λj _ z02=>?_;obtain rfl:=z02;exact J6 h
theorem W4{n i j:Nat}(h1:i<j)(h2:j<n):(c+j).fmod n≠(c+i).fmod n:=by
 intro e;rw[fmod_eq_emod_of_nonneg _ (natCast_nonneg n),fmod_eq_emod_of_nonneg _ (natCast_nonneg n)]at e;have e:=Int.emod_eq_emod_iff_emod_sub_eq_zero.mp e;rw[Int.add_sub_add_left,<-Int.natCast_sub (le_of_lt h1),<-Int.natCast_emod,Nat.mod_eq_of_lt (lt_of_le_of_lt (Nat.sub_le j i) h2)]at e;exact Nat.sub_ne_zero_of_lt h1 (Int.natCast_inj.mp e)
theorem OZ(nd:pur.Nodup)(h:k<=pur.length):(FP pur c k).Nodup:=by
 induction k with
 |zero=>exact nodup_nil
 |succ k ih=>
  have h0:0<pur.length:=lt_of_lt_of_le (succ_pos k) h;rw[PN,nodup_append];refine⟨ih (le_of_lt h),nodup_cons.mpr ⟨not_mem_nil,nodup_nil⟩,λa ha b hb e=>?_⟩;refine e12 (mem_map.mp ha) λj hj z12=>?_;obtain rfl:=z12;rw[mem_singleton.mp hb]at e;have hj:=mem_range.mp hj;refine W4 (c:=c) hj h ?_;have a1:=JI (c:=c) (j:=j) h0;have a2:=JI (c:=c) (j:=k) h0;rw[<-e]at a2;have:=(List.getElem?_inj (PW h0) nd).mp (a1.trans a2.symm);have b1:=BD (x:=c+j) (m:=pur.length) (ofNat_lt.mpr h0);have b2:=BD (x:=c+k) (m:=pur.length) (ofNat_lt.mpr h0);exact rl (Eq.symm (toNat_of_nonneg b1)) (rl (Eq.symm (toNat_of_nonneg b2)) (rl this rfl))
end
structure DW(pur:List Str)(ps:List (Str×Int)):Prop where
 k:(ps.map (·.1)).Nodup
 m:∀e∈ps,e.1∈pur/\1<=e.2/\e.2<=1000000000000000000000000000000
 l:1<=ps.length/\ps.length<=8
structure IR(pur:List Str)(own:Str)(ps gs:List (Str×Int))(ns:List Str)(last:Int):Prop where
 p:DW pur ps
 g:DW pur gs
 eq:Bj ps=Bj gs
 nn:(own::ns).Nodup
 nm:∀s∈ns,A9 s=true
 l3:ns.length<=8
 la:0<=last
theorem U4(h:∀e∈l,CK B (.str e.1)=true/\DI (.int e.2)=true)(nd:((acc++l).map (·.1)).Nodup):EM B (P2 l) acc = .ok (acc++l):=by
 induction l generalizing acc with
 |nil=>refine rl (append_nil ..) ?_;rfl
 |cons e l ih=>
  refine Ap (h e (.head _)) λh1 h2=>?_;show(if CK B (.str e.1)=true then(if e.1∈acc.map (·.1) then _ else if DI (.int e.2)=true then EM B (P2 l) (acc++[(e.1,e.2)]) else _) else _)=_;have e1:acc++e::l=acc++[(e.1,e.2)]++l:=by refine rl (append_assoc ..) ?_;rfl
  rw[if_pos h1,if_neg,if_pos h2,ih (λx hx=>h x (.tail _ hx)) (by rw[<-e1];exact nd),e1];rw[map_append,nodup_append]at nd;exact λhm=>nd.2.2 _ hm e.1 (.head _) rfl
theorem OJ(hf:B.free.map (·.1)=pur)(hn:∀s∈pur,A9 s=true)(p:DW pur l):Ei B (P2 l) = .ok l:=by
 unfold Ei;refine rl FG (rl (if_pos p.l) (U4 (acc:=[]) (λe he=>⟨?_,decide_eq_true (p.m e he).2⟩) p.k));show(A9 e.1&&hs B.free e.1)=true;refine rl (hn _ (p.m e he).1) (rl ((DN hf).mpr (p.m e he).1) ?_);rfl
def All2{α β:Type}(p:α->β->Prop):List α->List β->Prop
 |[],[]=>True
 |a::as,b::bs=>p a b/\All2 p as bs
 |_,_=>False
theorem All2.ind{α β:Type}{p:α->β->Prop}{C:List α->List β->Prop}{as}{bs}(h:All2 p as bs)(h0:C [] [])(h1:∀a b as bs,p a b->C as bs->C (a::as) (b::bs)):C as bs:=by
 induction as generalizing bs with
 |nil=>cases bs with
  |nil=>exact h0
  |cons=>exact h.elim
 |cons a as ih=>cases bs with
  |nil=>exact h.elim
  |cons b bs=>exact h1 a b as bs h.1 (ih h.2)
section
variable{p p':α->β->Prop}
theorem All2.map(h:All2 p as bs)(f:∀{a b},p a b->p' a b):All2 p' as bs:=h.ind (C:=All2 p') trivial λ_ _ _ _ h ih=>⟨f h,ih⟩
theorem All2.len(h:All2 p as bs):as.length=bs.length:=h.ind (C:=λas bs=>as.length=bs.length) rfl λ_ _ _ _ _ ih=>congrArg Nat.succ ih
theorem All2.app(h:All2 p as bs)(h':All2 p as' bs'):All2 p (as++as') (bs++bs'):=h.ind (C:=λas bs=>All2 p (as++as') (bs++bs')) h' λ_ _ _ _ h ih=>⟨h,ih⟩
theorem All2.getR(h:All2 p as bs){j:Nat}{b:β}:bs[j]? =some b->∃a,as[j]? =some a/\p a b:=
 h.ind (C:=λas bs=>∀j,bs[j]? =some b->∃a,as[j]? =some a/\p a b) (λj e=>by trivial) (λa' b as bs h ih j=>by
  cases j with
  |zero=>exact λe=>by obtain rfl:=Ak e;exact⟨a',rfl,h⟩
  |succ j=>exact ih j) j
theorem All2.snoc(h:All2 p as bs)(x:p a b):All2 p (as++[a]) (bs++[b]):=h.app ⟨x,trivial⟩
end
theorem FH{a:Addr}{xs:List AV}{j:Nat}(h:H a=some (.tuple xs))(hj:xs[j]? =some v)(hl:xs.length<=1000)(q:Q v H):A8 (.ref a) (.int j) Q H:=by
 have hlt:=(AJ hj).1
 (dsimp only[DL];refine rl h ?_)
 refine⟨j,v,?_,FV hlt hl,EY,hj,q⟩;unfold Dj;refine rl (if_pos (natCast_nonneg j)) (rl (if_pos (ofNat_lt.mpr hlt)) ?_);rfl
theorem Dt{a:Addr}{xs:List AV}{j:Nat}(h:H a=some (.list xs))(hj:xs[j]? =some v)(hl:xs.length<=1000)(q:Q v H):A8 (.ref a) (.int j) Q H:=by
 have hlt:=(AJ hj).1
 (dsimp only[DL];refine rl h ?_)
 refine⟨j,v,?_,FV hlt hl,EY,hj,q⟩;unfold Dj;refine rl (if_pos (natCast_nonneg j)) (rl (if_pos (ofNat_lt.mpr hlt)) ?_);rfl
def Kp(H H':Ac):Prop:=∀a x,x.isB=false->H a=some x->H' a=some x
theorem Kp.trans(x:Kp H H')(y:Kp H' H''):Kp H H'':=λa o n h=>y a o n (x a o n h)
theorem Kp.ext(e:Ext H H'):Kp H H':=λa o _ h=>e a o h
theorem Kp.kb(hb:H b=some (.book B))(e:Kb b H H'):Kp H H':=λa o n h=>e a o (λq=>by rw[q,hb]at h;cases h;cases n) h
noncomputable def AH(w:List Str):Str:=w.getLast?.getD ⟨#[]⟩
noncomputable def AR(done w:List Str)(p:List (List Str)×List Str)(o:Str):List (List Str)×List Str:=if o∈p.2\/o∈done then p else(p.1++[w++[o]],p.2++[o])
noncomputable def Gq(full:List Str)(nd:Str->List Str)(done:List Str):Nat->List (List Str)->List Str->Nat->List Str
 | 0,_,_,_=>[]
 |fuel+1,W,seen,place=>match W[place]? with
  |none=>[]
  |some w=>if AH w∈full then Gq full nd done fuel ((nd (AH w)).foldl (AR done w) (W,seen)).1 ((nd (AH w)).foldl (AR done w) (W,seen)).2 (place+1) else w
theorem ND{full:List Str}{nd:Str->List Str}{done:List Str}{fuel}{W}{seen}{place}:Gq full nd done (fuel+1) W seen place=match W[place]? with|none=>[]|some w=>if AH w∈full then Gq full nd done fuel ((nd (AH w)).foldl (AR done w) (W,seen)).1 ((nd (AH w)).foldl (AR done w) (W,seen)).2 (place+1) else w:=rfl
noncomputable def IQ(full:List Str)(nd:Str->List Str)(done:List Str)(N:Nat)(name:Str):List Str:=Gq full nd done (N+1) [[name]] [name] 0
structure WaysOk(dom:List Str)(W:List (List Str))(seen:List Str):Prop where
 len:W.length=seen.length
 nodup:seen.Nodup
 dom:∀x∈seen,x∈dom
 last:∀(i:Nat) w,W[i]? =some w->w≠[]/\w.length<=i+1/\seen[i]? =some (AH w)
theorem JQ{l m:List Str}(h:l.Nodup)(k:∀x∈l,x∈m):l.length<=m.length:=QF h k
theorem WaysOk.small{dom:List Str}{W:List (List Str)}{seen}(h:WaysOk dom W seen):W.length<=dom.length:=by
 exact rl h.len (JQ h.nodup h.dom)
theorem Ia:AH (w++[o])=o:=by unfold AH;refine rl (List.getLast?_append) ?_;rfl
theorem JF(h:(P++[y])[i]? =some z):(i<P.length/\P[i]? =some z)\/(i=P.length/\z=y):=by
 rcases lt_or_ge i P.length with hi|hi
 ·rw[getElem?_append_left hi]at h;exact .inl ⟨hi,h⟩
 ·rw[getElem?_append_right hi]at h;have e:i - P.length=0:=by have:=(AJ h).1;exact Nat.lt_one_iff.mp this
  rw[e]at h;exact .inr ⟨Nat.le_antisymm (Nat.le_of_sub_eq_zero e) hi,(Ak h).symm⟩
theorem LL(h:n=P.length):(P++[y])[n]? =some y:=by
 refine rl (h ..) (rl (getElem?_append_right (le_refl _) ..) (rl (sub_self ..) ?_));rfl
theorem WaysOk.step{dom done:List Str}{W:List (List Str)}{seen w:List Str}{o:Str}{k:Nat}(h:WaysOk dom W seen)(ho:o∈dom)(hw:w.length<=k+1)(hk:k<W.length):WaysOk dom (AR done w (W,seen) o).1 (AR done w (W,seen) o).2:=by
 unfold AR;by_cases hn:o∈seen\/o∈done
 ·refine rl (if_pos hn) ?_;exact h
 ·refine rl (if_neg hn) ⟨by show(W++[_]).length=(seen++[_]).length;refine rl length_append (rl length_append (rl h.len ?_));rfl,nodup_append.mpr ⟨h.nodup,nodup_cons.mpr ⟨not_mem_nil,nodup_nil⟩,λa ha b hb e=>hn (.inl (by rw[e,mem_singleton.mp hb]at ha;exact ha))⟩,λx hx=>(mem_append.mp hx).elim (h.dom x) λz=>by refine rl (mem_singleton.mp z) ?_;exact ho,λi w' hi=>?_⟩;rcases JF hi with⟨hl,hi⟩|⟨e,e'⟩
  ·exact Br (h.last i w' hi) λh1 h2 h3=>⟨h1,h2,by show(seen++[o])[i]? =_;refine rl (getElem?_append_left (h.len▸hl)) ?_;exact h3⟩
  ·exact rl e' (rl Ia (rl length_append ⟨List.append_ne_nil_of_right_ne_nil _ (List.cons_ne_nil _ _),by refine rl e ?_;exact succ_le_succ (le_trans hw hk),LL (e.trans h.len)⟩))
theorem O3:p.1 <+: (AR done w p o).1/\p.2 <+: (AR done w p o).2:=by
 unfold AR;split
 ·exact⟨prefix_refl _,prefix_refl _⟩
 ·exact⟨List.prefix_append _ _,List.prefix_append _ _⟩
theorem Js{done w:List Str}{ns:List Str}:p.1 <+: (ns.foldl (AR done w) p).1/\p.2 <+: (ns.foldl (AR done w) p).2:=by
 induction ns generalizing p with
 |nil=>exact⟨prefix_refl _,prefix_refl _⟩
 |cons o r ih=>
  have h1:=O3 (done:=done) (w:=w) (p:=p) (o:=o);have h3:=ih (p:=AR done w p o);exact⟨h1.1.trans h3.1,h1.2.trans h3.2⟩
theorem WaysOk.fold{dom done w:List Str}{k:Nat}{ns:List Str}(h:WaysOk dom p.1 p.2)(hn:∀o∈ns,o∈dom)(hw:w.length<=k+1)(hk:k<p.1.length):WaysOk dom (ns.foldl (AR done w) p).1 (ns.foldl (AR done w) p).2:=by
 induction ns generalizing p with
 |nil=>exact h
 |cons o r ih=>exact ih (h.step (done:=done) (w:=w) (hn o (.head _)) hw hk) (λo ho=>hn o (.tail _ ho)) (lt_of_lt_of_le hk (O3 (done:=done)).1.length_le)
theorem Lw(full:List Str)(nd:Str->List Str)(done:List Str):∃g,Grt full nd done g:=by
 classical
 refine⟨full.filter λx=>decide (∃S,IG full nd done S/\S x),filter_sublist,λx hx o ho=>?_,λS hS x hx=>?_⟩
 ·rw[mem_filter,decide_eq_true_eq]at hx;obtain⟨_,S,hS,hx⟩:=hx;rcases(hS x hx).2 o ho with z|z
  ·left;rw[mem_filter,decide_eq_true_eq];exact⟨(hS o z).1,S,hS,z⟩
  ·exact .inr z
 ·rw[mem_filter,decide_eq_true_eq];exact⟨(hS x hx).1,S,hS,hx⟩
structure RowsAt(H:Ac)(wy:Addr)(W:List (List Str)):Prop where
 at':∃refs,H wy=some (.list refs)/\refs.length=W.length/\∀(i:Nat) w,W[i]? =some w->∃a,refs[i]? =some (.ref a)/\H a=some (.list (Ae w))/\a≠wy
theorem RowsAt.ext(h:RowsAt H wy W)(e:Ext H H'):RowsAt H' wy W:=by
 obtain⟨refs,h1,h2,h3⟩:=h;exact⟨refs,e _ _ h1,h2,λi w hi=>e13 (h3 i w hi) λa h4 h5 h6=>⟨a,h4,e _ _ h5,h6⟩⟩
theorem RowsAt.put(h:RowsAt H wy W)(hs:H sn=some (.dict ep es)):RowsAt (up H sn (.dict ep' es')) wy W:=by
 obtain⟨refs,h1,h2,h3⟩:=h;refine⟨refs,by refine rl (Ag (λz=>by rw[z,hs]at h1;cases h1)) ?_;exact h1,h2,λi w hi=>?_⟩;exact e13 (h3 i w hi) λa h4 h5 h6=>⟨a,h4,by refine rl (Ag (λz=>by rw[z,hs]at h5;cases h5)) ?_;exact h5,h6⟩
theorem RowsAt.push(h:RowsAt H wy W)(hw:H wy=some (.list refs))(hz:H z=some (.list (Ae w)))(hne:z≠wy):RowsAt (up H wy (.list (refs++[.ref z]))) wy (W++[w]):=by
 obtain⟨refs',h1,h2,h3⟩:=h;rw[hw]at h1;obtain rfl:=AObj.list.inj (Ak h1);refine⟨_,Ah,by refine rl length_append (rl length_append (rl h2 ?_));rfl,λi w' hi=>?_⟩;rcases JF hi with⟨hl,hi⟩|⟨e,e'⟩
 ·exact e13 (h3 i w' hi) λa h4 h5 h6=>⟨a,by refine rl (getElem?_append_left (h2▸hl)) ?_;exact h4,by refine rl (Ag h6) ?_;exact h5,h6⟩
 ·exact rl e' ⟨z,LL (e.trans h2.symm),by refine rl (Ag hne) ?_;exact hz,hne⟩
theorem TabIs.own(h:TabIs H z l)(hz:z≠a):TabIs (up H a o) z l:=by
 exact e22 h λep es h1 h2=>⟨ep,es,by refine rl (Ag hz) ?_;exact h1,h2⟩
theorem TabIs.ne(h:TabIs H z l)(ha:H a=some (.list xs)):z≠a:=λe=>by
 refine e22 h λep es h1 h2=>?_;rw[e,ha]at h1;cases h1
section
variable(G:Gd c P)
theorem XV{a:Addr}{xs:List AV}{k:Nat}(h:H a=some (.list xs))(hk:xs[k]? =some v)(hl:xs.length<=100000)(q:Q v H):A8 (.ref a) (.int k) Q H:=by
 have hlt:k<xs.length:=(AJ hk).1;refine rl DL (rl h ⟨k,v,?_,by lia,EY,hk,q⟩);unfold Dj;refine rl (if_pos (natCast_nonneg k)) (rl (if_pos (ofNat_lt.mpr hlt)) ?_);rfl
theorem Vz(h:H a=some (.list (Ae w)))(hw:w≠[])(hl:w.length<=100000)(q:Q (.str (AH w)) H):A8 (.ref a) (.int (-1)) Q H:=by
 obtain⟨l,o,rfl⟩:∃l o,w=l++[o]:=⟨w.dropLast,w.getLast hw,(List.dropLast_concat_getLast hw).symm⟩
 rw[Ia]at q;refine rl DL (rl h (rl txs_snoc.symm ⟨(Ae l).length,.str o,?_,by decide,by decide,LL rfl,q⟩));unfold Dj;exact rl (if_neg (by decide)) (rl (show(Ae l++[AV.str o]).length=(Ae l).length+1 from length_append) (rl (if_pos (show -(((Ae l).length+1:Nat):Int)<=-1 by lia)) (congrArg some (show((-1:Int)+(((Ae l).length+1:Nat):Int)).toNat=(Ae l).length by lia))))
theorem Lq(h:NeedsAt H d f full)(hE:Ext H H')(hx:x∈full)(q:∀r,H r=some (.list (Ae (f x)))->(f x).length<=1000->Q (.ref r) H'):A8 (.ref d) (.str x) Q H':=by
 refine e22 h λep es e1 e2=>e13 (e2 x hx) λr h1 h2 h3=>?_;simp only[DL,CU,GT,hE _ _ e1];exact⟨_,h1,q r h2 h3⟩
theorem W8{H:Ac}{sn:Addr}{ep':Nat}{es}{seen}{o}{v}(h2:es.length<=seen.length)(h3:∀k,(Bb es k).isSome=decide (k∈seen)):TabIs (up H sn (.dict ep' (AI es o v))) sn (seen++[o]):=by
 refine⟨ep',_,Ah,by have:=JL (es:=es) (k:=o) (v:=v);simp;exact HN this h2,λk=>?_⟩;rw[GD,Pn,Bool.eq_iff_iff];simp only[decide_eq_true_eq,Ou,mem_append,mem_singleton];have:=h3 k;rw[GD,Bool.eq_iff_iff]at this;simp only[decide_eq_true_eq]at this;rw[this]
end
structure Cs(H:Ac)(wy sn:Addr)(W:List (List Str))(seen:List Str)(H':Ac):Prop where
 ext:Ext H H'
 s:TabIs H' sn seen
 r:RowsAt H' wy W
section
variable{g:Gx}{QN:VV->Ac->Prop}{QR:AV->Ac->Prop}{EE:String->VV->Ac->Prop}{H H':Ac}{fu d dn rd wh wy sn aw:Addr}{full done dom seen w:List Str}{W:List (List Str)}{nd:Str->List Str}{v0 v1 v3 v5 v8 v11:Option AV}{k:Nat}
inductive Cf(H:Ac)(v0 v1 v2 v3 v4 v5 v6 v7 v8 v9 v10:Option AV)(wy sn aw:Addr)(w:List Str)(A:Nat->List (List Str)×List Str)(k:Nat)(V':VV)(H':Ac):Prop
 |mk (p11:Option AV) (hV:V'=[v0,v1,v2,v3,v4,v5,v6,v7,v8,v9,v10,p11]) (C:Cs H wy sn (A k).1 (A k).2 H') (ha:H' aw=some (.list (Ae w)))
theorem Uj(C:Cs H wy sn W seen H')(hwy:H wy=none)(hsn:H sn=none)(ha:H' aw=some (.list (Ae w)))(na:aw≠wy)(hl:seen.length<=1000)(hW:W.length<=1000)(hw:w.length<=900)
  (q:∀H'',Cs H wy sn (W++[w++[o]]) (seen++[o]) H''->H'' aw=some (.list (Ae w))->QV [v0,v1,some (.ref d),v3,some (.ref rd),v5,some (.ref wy),some (.ref sn),v8,some (.ref aw),v11,some (.str o)] H'') :
  Af g [.assign (.sub (.var 7) (.var 11)) (.lit (.bool true)),.expr (.bm (.var 6) .append [(.bin .Add (.var 9) (.list [(.var 11)]))])] QV QR EE [v0,v1,some (.ref d),v3,some (.ref rd),v5,some (.ref wy),some (.ref sn),v8,some (.ref aw),v11,some (.str o)] H':=by
 obtain⟨hX,⟨ep,es,s1,s2,s3⟩,hR⟩:=C;refine Ab λK nx=>?_;show match H' sn with|some (.dict _ es)=>_|_=>False
 refine rl s1 ⟨le_trans s2 (le_trans hl (by decide)),λep'=>nx _ _ ?_⟩;have hX3:Ext H (up H' sn (.dict ep' (AI es o (.bool true)))):=hX.own hsn;have hS3:TabIs (up H' sn (.dict ep' (AI es o (.bool true)))) sn (seen++[o]):=W8 s2 s3;have hR3:=hR.put (ep':=ep') (es':=AI es o (.bool true)) s1;have hA3:up H' sn (.dict ep' (AI es o (.bool true))) aw=some (.list (Ae w)):=by
  refine rl (Ag (λz=>by rw[z,s1]at ha;exact AObj.noConfusion (Ak ha))) ?_;exact ha
 generalize up H' sn (.dict ep' (AI es o (.bool true)))=H3 at hX3 hS3 hR3 hA3;refine e13 hR3.at' λrefs q1 q2 _=>Ab λK nx=>⟨?_,?_⟩
 ·show match H3 wy with|some (.list _)=>_|some (.dict _ _)=>_|_=>False
  exact rl q1 (.inl rfl)
 dsimp only[Al,An,Av,AB,Ad];show ∀b,H3 b=none->BJ .Add (.ref aw) (.ref b) _ (up H3 b (.list [.str o]));intro b hb;have e1:=Ext.refl.new (o:=.list [.str o]) hb;refine GM (ys:=[.str o]) (e1 _ _ hA3) Ah (by refine rl AO ?_;show w.length+1<=1000;exact lt_of_le_of_lt hw (by decide)) λz hz=>?_;have e:=e1.new (o:=.list (Ae w++[.str o])) hz;refine DJ (e _ _ q1) (rl q2 (le_trans hW (by decide))) (nx _ _ (q _ ⟨(hX3.trans e).own hwy,(hS3.ext e).own (hS3.ne q1),(hR3.ext e).push (e _ _ q1) (by rw[Ah,txs_snoc]) λe3=>?_⟩ (by rw[Ag na];exact e _ _ hA3)));rw[e3,e1 _ _ q1]at hz;trivial
theorem Wr(hmd:g.md=true)(C:Cs H wy sn W seen H')(hwy:H wy=none)(hsn:H sn=none)(hd:NeedsAt H d nd full)(hrd:TabIs H rd done)(ha:H' aw=some (.list (Ae w)))(na:aw≠wy)(hin:AH w∈full)(wk:WaysOk dom W seen)(w2:w.length<=k+1)(hlt:k<W.length)(hdom:∀x∈full,∀o∈nd x,o∈dom)(hdl:dom.length<=900)
  (q:∀H'' p11,Cs H wy sn ((nd (AH w)).foldl (AR done w) (W,seen)).1 ((nd (AH w)).foldl (AR done w) (W,seen)).2 H''->QN [v0,v1,some (.ref d),v3,some (.ref rd),v5,some (.ref wy),some (.ref sn),v8,some (.ref aw),some (.str (AH w)),p11] H'') :
  A4 g (.for (.var 11) (.sub (.var 2) (.var 10)) [.ite (.ao true [(.cmp .NotIn (.var 11) (.var 7)),(.cmp .NotIn (.var 11) (.var 4))]) [.assign (.sub (.var 7) (.var 11)) (.lit (.bool true)),.expr (.bm (.var 6) .append [(.bin .Add (.var 9) (.list [(.var 11)]))])] []]) QN QR EE [v0,v1,some (.ref d),v3,some (.ref rd),v5,some (.ref wy),some (.ref sn),v8,some (.ref aw),some (.str (AH w)),v11] H':=by
 refine⟨hmd,Lq hd C.ext hin λr hr hr8=>CD (xs:=Ae (nd (AH w))) (Bu (C.ext _ _ hr)) (Cf H v0 v1 (some (.ref d)) v3 (some (.ref rd)) v5 (some (.ref wy)) (some (.ref sn)) v8 (some (.ref aw)) (some (.str (AH w))) wy sn aw w λj=>((nd (AH w)).take j).foldl (AR done w) (W,seen)) ⟨_,rfl,C,ha⟩ ?_⟩;rintro I hI j V2 H2 ⟨p11,rfl,C2,ha2⟩;refine⟨(C2.ext _ _ hr).trans (C.ext _ _ hr).symm,λhj=>?_,λy hy=>?_⟩
 ·rw[hj,AO,take_length]at C2;exact q H2 _ C2
 ·refine e12 (Ff hy) λo z11 ho=>?_;obtain rfl:=z11;have htk:((nd (AH w)).take (j+1)).foldl (AR done w) (W,seen)=AR done w (((nd (AH w)).take j).foldl (AR done w) (W,seen)) o:=by
   refine rl (B0 ho) (rl foldl_append ?_);rfl
  have wk2:WaysOk dom _ _:=WaysOk.fold (p:=(W,seen)) (done:=done) (w:=w) wk (ns:=(nd (AH w)).take j) (λo ho=>hdom _ hin o (mem_of_mem_take ho)) w2 hlt;have hI2:∀H3,Cs H wy sn (AR done w (((nd (AH w)).take j).foldl (AR done w) (W,seen)) o).1 (AR done w (((nd (AH w)).take j).foldl (AR done w) (W,seen)) o).2 H3->H3 aw=some (.list (Ae w))->I (j+1) [v0,v1,some (.ref d),v3,some (.ref rd),v5,some (.ref wy),some (.ref sn),v8,some (.ref aw),some (.str (AH w)),some (.str o)] H3:=λH3 c h=>hI _ _ _ ⟨_,rfl,by refine rl htk ?_;exact c,h⟩;clear hI htk;generalize((nd (AH w)).take j).foldl (AR done w) (W,seen)=p at C2 wk2 hI2;obtain⟨W2,seen2⟩:=p;have s2:=wk2.small;have l2:W2.length=seen2.length:=wk2.len;have swl:w.length<=900:=by have:=wk.small;lia
  refine⟨show 11<12 by decide,?_⟩;refine Ab λK nx=>?_;dsimp only[A7,Am,AQ,AT,Ar,Ad];show AA .NotIn (.str o) (.ref sn) _ _;dsimp only[C1];refine GG C2.s ?_;dsimp only[Az];have skip:(o∈seen2\/o∈done)->K [v0,v1,some (.ref d),v3,some (.ref rd),v5,some (.ref wy),some (.ref sn),v8,some (.ref aw),some (.str (AH w)),some (.str o)] H2:=λh=>nx _ _ (hI2 H2 (by unfold AR;exact rl (if_pos h) C2) ha2);by_cases h1:o∈seen2
  ·exact rl (decide_eq_true h1) (skip (.inl h1))
  ·refine rl (decide_eq_false h1)<|rl (if_pos rfl)<|GG (hrd.ext C2.ext) ?_;dsimp only[Az];by_cases h2:o∈done
   ·exact rl (decide_eq_true h2) (skip (.inr h2))
   ·refine rl (decide_eq_false h2)<|rl (if_pos rfl)<|Uj C2 hwy hsn ha2 na (rl l2.symm (le_trans s2 (le_trans hdl (by decide)))) (le_trans s2 (le_trans hdl (by decide))) swl λH3 C3 h3=>nx _ _ (hI2 H3 ?_ h3);have:AR done w (W2,seen2) o=(W2++[w++[o]],seen2++[o]):=if_neg (not_or.mpr ⟨h1,h2⟩);exact rl this C3
inductive Cw(H:Ac)(name:Str)(fu d dn rd wh wy sn:Addr)(full done dom:List Str)(nd:Str->List Str)(R:List Str)(m:Nat)(V':VV)(H':Ac):Prop
 |mk (W:List (List Str)) (seen:List Str) (place:Nat) (p9 p10 p11:Option AV) (hV:V'=[some (.str name),some (.ref fu),some (.ref d),some (.ref dn),some (.ref rd),some (.ref wh),some (.ref wy),some (.ref sn),some (.int (place:Nat)),p9,p10,p11]) (C:Cs H wy sn W seen H') (wk:WaysOk dom W seen) (hp:place<=W.length) (hm:m+place=dom.length+1) (hb:Gq full nd done m W seen place=R)
theorem U'{name}(hmd:g.md=true)(C:Cs H wy sn W seen H')(hwy:H wy=none)(hsn:H sn=none)(hd:NeedsAt H d nd full)(hrd:TabIs H rd done)(hwh:TabIs H wh full)(wk:WaysOk dom W seen)(hdom:∀x∈full,∀o∈nd x,o∈dom)(hdl:dom.length<=900)(hb:Gq full nd done (dom.length+1) W seen 0=R)
  (q:∀z H'',Ext H H''->H z=none->H'' z=some (.list (Ae R))->QR (.ref z) H'') :
  Af g (BK.Zk.body.drop 6) QN QR EE [some (.str name),some (.ref fu),some (.ref d),some (.ref dn),some (.ref rd),some (.ref wh),some (.ref wy),some (.ref sn),some (.int 0),none,none,none] H':=by
 refine Ab λK nx=>⟨hmd,Cw H name fu d dn rd wh wy sn full done dom nd R,⟨dom.length+1,W,seen,0,_,_,_,rfl,C,wk,zero_le _,rfl,hb⟩,?_⟩
 clear C wk hb;rintro m V2 H2 ⟨W,seen,place,p9,p10,p11,rfl,C,wk,hp,hm,hb⟩;have sm:=wk.small;refine e13 C.r.at' λrefs r1 r2 r3=>?_;dsimp only[Ar,A1,Al,An,Ad];show BS _ .len [.ref wy] _ _;refine El r1 (rl r2 (le_trans sm (le_trans hdl (by decide))))<|rl r2 ?_;dsimp only[Bc,Az];obtain⟨m',rfl⟩:∃m',m=m'+1:=⟨m - 1,by lia⟩
 rw[ND]at hb;by_cases hlt:place<W.length
 ·refine rl (decide_eq_true (ofNat_lt.mpr hlt))<|rl (if_pos rfl) ?_;have hw:=getElem?_eq_getElem hlt;generalize W[place]=w at hw;refine e13 (r3 place w hw) λaw ra rb rc=>Br (wk.last place w hw) λw1 w2 _=>?_;rw[hw]at hb;have swl:w.length<=100000:=by lia
  refine Ab λK nx=>XV r1 ra (rl r2 (le_trans sm (le_trans hdl (by decide)))) ⟨show 9<12 by decide,nx _ _ ?_⟩;refine Ab λK nx=>Vz rb w1 swl ⟨show 10<12 by decide,nx _ _ ?_⟩;refine Ab λK nx=>?_;dsimp only[A7,Ar,Ad];show AA .NotIn (.str (AH w)) (.ref wh) _ _;dsimp only[C1];refine GG (hwh.ext C.ext) ?_;dsimp only[Az];by_cases hin:AH w∈full
  ·refine rl (decide_eq_true hin) ?_;dsimp only at hb;rw[if_pos hin]at hb;refine nx _ _<|Ab λK nx=>Wr hmd C hwy hsn hd hrd rb rc hin wk w2 hlt hdom hdl λH3 p11' C3=>nx _ _ ?_;have hpre:=Js (done:=done) (w:=w) (ns:=nd (AH w)) (p:=(W,seen));exact⟨show 8<12 by decide,m',by lia,_,_,place+1,_,_,_,rfl,C3,WaysOk.fold (p:=(W,seen)) wk (hdom _ hin) w2 hlt,lt_of_lt_of_le hlt hpre.1.length_le,by lia,hb⟩
  ·refine rl (decide_eq_false hin) ?_;dsimp only at hb;rw[if_neg hin]at hb;exact rl (if_pos rfl)<|Ab λK2 nx2=>Mx rb (rl AO swl) λz hz=>q z _ (C.ext.new hz) (C.ext.none hz) (by exact rl Ah (rl hb rfl))
 ·refine rl (decide_eq_false (λz=>hlt (ofNat_lt.mp z))) ?_;rw[getElem?_eq_none (Nat.le_of_not_lt hlt)]at hb;refine nx _ _ ?_;intro z hz;exact q z _ (C.ext.new hz) (C.ext.none hz) (by refine rl Ah (rl hb.symm ?_);rfl)
end
section
variable(G:Gd c P){Q:AV->Ac->Prop}{E:String->Ac->Prop}{H:Ac}
include G
theorem Wq(h0:P.fns.lookup "chain"=some BK.Zk)(h1:P.fns.lookup "greatest"=some BK.Zg)(h2:P.fns.lookup "are_met"=some BK.Zc)(h3:P.fns.lookup "table_of"=some BK.Zd){fu d dn:Addr}{full done dom:List Str}{nd:Str->List Str}{name:Str}
  (hf:H fu=some (.list (Ae full)))(hd:NeedsAt H d nd full)(hn:H dn=some (.list (Ae done)))(lf:full.length<=1000)(ld:done.length<=1000)(hdom:name∈dom)(hdom':∀x∈full,∀o∈nd x,o∈dom)(hdl:dom.length<=900)
  (q:∀z H' g,Ext H H'->H z=none->Grt full nd done g->H' z=some (.list (Ae (if name∈done\/name∈g then[] else IQ full nd done dom.length name)))->Q (.ref z) H'):CallOK c (n+3) true "chain" [.str name,.ref fu,.ref d,.ref dn] Q E H:=by
 refine G.call (F:=BK.Zk) h0 rfl ?_;show Af _ _ _ _ _ [some (.str name),some (.ref fu),some (.ref d),some (.ref dn),none,none,none,none,none,none,none,none] _;refine Ab λK nx=>Il (n:=n+1) G h3 hn ld λrd H1 E1 _ t1=>⟨show 4<12 by decide,nx _ _ ?_⟩
 have out:∀{g:List Str} {H2:Ac},Ext H H2->Grt full nd done g->(name∈done\/name∈g)->∀z,H2 z=none->Q (.ref z) (up H2 z (.list [])):=λe gr h z hz=>q z _ _ (e.new hz) (e.none hz) gr (by refine rl Ah (rl (if_pos h) ?_);rfl);refine Ab λK nx=>?_;dsimp only[A7,Am,AQ,AT,Ar,Ad];show AA .In (.str name) (.ref rd) _ _;dsimp only[AS];refine GG t1 ?_;dsimp only[Az];by_cases hnd:name∈done
 ·exact rl (decide_eq_true hnd)<|e11 (Lw full nd done) λg Gr=>out E1 Gr (.inl hnd)
 ·refine rl (decide_eq_false hnd)<|rl (if_pos rfl)<|Ol (n:=n) G h1 h2 h3 (E1 _ _ hf) (hd.ext E1) (E1 _ _ hn) lf ld λgo H2 g E2 _ hgo Gr=>GF hgo ?_;dsimp only[Az];have hE:=E1.trans E2;by_cases hng:name∈g
  ·exact rl (decide_eq_true hng)<|out hE Gr (.inr hng)
  ·refine rl (decide_eq_false hng)<|nx _ _<|Ab λK nx=>Il (n:=n+1) G h3 (hE _ _ hf) lf λwh H3 E3 _ t3=>⟨show 5<12 by decide,nx _ _ ?_⟩
   have hE3:=hE.trans E3;refine Ab λK nx=>?_;intro a ha wy hwy;refine⟨show 6<12 by decide,nx _ _ ?_⟩;have Ea:=Ext.refl.new (o:=.list [.str name]) ha;have Eb:=Ext.refl.new (o:=.list [.ref a]) hwy;refine Ab λK nx=>?_;intro sn ep hsn;refine⟨show 7<12 by decide,nx _ _ ?_⟩;have Ec:=Ext.refl.new (o:=.dict ep [(name,.bool true)]) hsn;refine Ab λK nx=>⟨show 8<12 by decide,nx _ _ ?_⟩
   have C:Cs H3 wy sn [[name]] [name] (up (up (up H3 a (.list [.str name])) wy (.list [.ref a])) sn (.dict ep [(name,.bool true)])):=by
    refine⟨(Ea.trans Eb).trans Ec,⟨ep,_,Ah,le_refl _,λk=>?_⟩,⟨[.ref a],Ec _ _ Ah,rfl,λi w hi=>?_⟩⟩
    ·refine rl GD ?_;rfl
    ·cases i with
     |zero=>obtain rfl:=Ak hi;exact⟨a,rfl,Ec _ _ (Eb _ _ Ah),λz=>by rw[<-z,Ah]at hwy;trivial⟩
     |succ i=>trivial
   refine U' (dom:=dom) (R:=IQ full nd done dom.length name) rfl C (Ea.none hwy) ((Ea.trans Eb).none hsn) (hd.ext hE3) ((t1.ext E2).ext E3) t3 ⟨rfl,nodup_cons.mpr ⟨not_mem_nil,nodup_nil⟩,λx hx=>by refine rl (mem_singleton.mp hx) ?_;exact hdom,λi w hi=>?_⟩ hdom' hdl rfl λz H4 e4 hz4 h4=>q z H4 g (hE3.trans e4) (hE3.none hz4) Gr (by refine rl (if_neg (not_or.mpr ⟨hnd,hng⟩)) ?_;exact h4);cases i with
   |zero=>obtain rfl:=Ak hi;exact⟨λz=>by trivial,le_refl _,rfl⟩
   |succ i=>trivial
end
structure Dist(full:List Str)(nd:Str->List Str)(done dom:List Str)(d:Str->Option Nat):Prop where
 one:∀x,d x=some 1↔x∈dom/\x∉full/\x∉done
 pos:∀x v,d x=some v->1<=v
 far:∀x v,d x=some v->v≠1->x∈full/\∃o∈nd x,d o=some (v - 1)
 near:∀x∈full,∀o∈nd x,∀s,d o=some s->∃v,d x=some v/\v<=s+1
structure GP(nd:Str->List Str)(d:Str->Option Nat)(T:Nat)(name:Str)(P:List Str):Prop where
 hd:P[0]? =some name
 dv:∀(i:Nat) x,P[i]? =some x->d x=some (T - i)
 nx:∀(i:Nat) x y,P[i]? =some x->P[i+1]? =some y->∃pre post,nd x=pre++y::post/\∀o∈pre,d o≠some (T - i - 1)
section
variable{full:List Str}{nd:Str->List Str}{done dom:List Str}{name:Str}{d:Str->Option Nat}{T:Nat}{P w:List Str}
theorem Vc:(∀v∈(AR done w p o).1,v∈p.1\/(o∉done/\v=w++[o]))/\∀x∈(AR done w p o).2,x∈p.2\/x=o:=by
 unfold AR;by_cases h:o∈p.2\/o∈done
 ·exact rl (if_pos h) ⟨λv hv=>.inl hv,λx hx=>.inl hx⟩
 ·exact rl (if_neg h) ⟨λv hv=>(mem_append.mp hv).imp id λz=>⟨λz=>h (.inr z),mem_singleton.mp z⟩,λx hx=>(mem_append.mp hx).imp id mem_singleton.mp⟩
theorem GE{ns:List Str}:(∀v∈(ns.foldl (AR done w) p).1,v∈p.1\/∃o∈ns,o∉done/\v=w++[o])/\∀x∈(ns.foldl (AR done w) p).2,x∈p.2\/x∈ns:=by
 induction ns generalizing p with
 |nil=>exact⟨λv hv=>.inl hv,λx hx=>.inl hx⟩
 |cons o r ih=>
  refine Ap (ih (p:=AR done w p o)) λh1 h2=>Ap (Vc (done:=done) (w:=w) (p:=p) (o:=o)) λb1 b2=>⟨λv hv=>?_,λx hx=>?_⟩
  ·rcases h1 v hv with h|⟨o',ho',h⟩
   ·exact(b1 v h).imp id λz=>⟨o,.head _,z⟩
   ·exact .inr ⟨o',.tail _ ho',h⟩
  ·rcases h2 x hx with h|h
   ·exact(b2 x h).imp id λz=>by exact rl z (.head _)
   ·exact .inr (.tail _ h)
structure KInv(full:List Str)(nd:Str->List Str)(done dom:List Str)(d:Str->Option Nat)(T:Nat)(P:List Str)(i idx:Nat)(W:List (List Str))(seen:List Str)(place:Nat):Prop where
 i2:i<T
 at':W[idx]? =some (P.take (i+1))
 pl:place<=idx
 wl:∀w∈W,w.length<=i+2
 bf:∀(j:Nat) w,place<=j->j<idx->W[j]? =some w->w.length<=i+1/\∀s,d (AH w)=some s->T<i+s
 se:∀x∈seen,∀s,d x=some s->T<=i+s
 wk:WaysOk dom W seen
 pd:∀w∈W,AH w∉done/\∀s,d (AH w)=some s->T+1<=s+w.length
variable{i idx place:Nat}{W:List (List Str)}{seen:List Str}
theorem KInv.more(D:Dist full nd done dom d)(K:KInv full nd done dom d T P i idx W seen place)(hw:w∈W)(hin:AH w∈full):∀v∈((nd (AH w)).foldl (AR done w) (W,seen)).1,AH v∉done/\∀s,d (AH v)=some s->T+1<=s+v.length:=λv hv=>by
 rcases GE.1 v hv with h|⟨o,ho,hd,rfl⟩
 ·exact K.pd v h
 ·refine rl Ia (rl length_append ⟨hd,λs hs=>e12 (D.near _ hin o ho s hs) λu hu hle=>?_⟩);have:=(K.pd w hw).2 u hu;show T+1<=s+(w.length+1);lia
theorem KInv.skip(D:Dist full nd done dom d)(hdom:∀x∈full,∀o∈nd x,o∈dom)(K:KInv full nd done dom d T P i idx W seen place)(hw:W[place]? =some w)(hp:place<idx):AH w∈full/\KInv full nd done dom d T P i idx ((nd (AH w)).foldl (AR done w) (W,seen)).1 ((nd (AH w)).foldl (AR done w) (W,seen)).2 (place+1):=by
 have hwm:=mem_of_getElem? hw;refine Br (K.wk.last place w hw) λ_ w2 w3=>Ap (K.bf place w (le_refl _) hp hw) λhwi hst=>?_;have hin:AH w∈full:=Classical.byContradiction λhn=>by
  have:=hst 1 ((D.one _).mpr ⟨K.wk.dom _ (mem_of_getElem? w3),hn,(K.pd w hwm).1⟩);have:=K.i2;lia
 refine e11 ((Js (done:=done) (w:=w) (ns:=nd (AH w)) (p:=(W,seen))).1) λt ht=>?_;have hx:idx<W.length:=(AJ K.at').1;have hold:∀j,j<W.length->((nd (AH w)).foldl (AR done w) (W,seen)).1[j]? =W[j]?:=λj hj=>by exact rl ht.symm (rl (getElem?_append_left hj) rfl)
 refine⟨hin,K.i2,(hold _ hx).trans K.at',hp,λv hv=>?_,λj v h1 h2 h3=>K.bf j v (le_of_lt h1) h2 ((hold j (lt_trans h2 hx)).symm.trans h3),λx hx s hs=>?_,WaysOk.fold (p:=(W,seen)) K.wk (hdom _ hin) w2 (lt_trans hp hx),K.more D hwm hin⟩
 ·rcases GE.1 v hv with h|⟨o,_,_,rfl⟩
  ·exact K.wl v h
  ·refine rl length_append ?_;exact succ_le_succ hwi
 ·rcases GE.2 x hx with h|h
  ·exact K.se x h s hs
  ·refine e12 (D.near _ hin x h s hs) λv hv hle=>?_;have:=hst v hv;lia
theorem KInv.hit(D:Dist full nd done dom d)(hdd:∀x∈done,d x=none)(hdom:∀x∈full,∀o∈nd x,o∈dom)(hP:GP nd d T name P){x y:Str}(K:KInv full nd done dom d T P i idx W seen idx)(hw:W[idx]? =some w)(hwP:w=P.take (i+1))(hx:P[i]? =some x)(hy:P[i+1]? =some y)(hi:i+1<T)(hlast:AH w=x)(hwl:w.length=i+1)(hin:AH w∈full) :
  ∃idx',KInv full nd done dom d T P (i+1) idx' ((nd (AH w)).foldl (AR done w) (W,seen)).1 ((nd (AH w)).foldl (AR done w) (W,seen)).2 (idx+1):=by
 have hwm:=mem_of_getElem? hw;have hxl:idx<W.length:=(AJ hw).1;refine Br (K.wk.last idx w hw) λ_ w2 _=>e22 (hP.nx i x y hx hy) λpre post hnd hpre=>?_;have hdy:d y=some (T - (i+1)):=hP.dv (i+1) y hy;have hdx:d x=some (T - i):=hP.dv i x hx;have hq:∀o∈nd (AH w),∀s,d o=some s->T<=s+1+i:=λo ho s hs=>by
  refine e12 (D.near _ hin o ho s hs) λv hv hle=>?_;rw[hlast,hdx]at hv;have:=Ak hv;exact KF this hle
 have hfold:(nd (AH w)).foldl (AR done w) (W,seen)=post.foldl (AR done w) (AR done w (pre.foldl (AR done w) (W,seen)) y):=by
  refine rl hlast (rl hnd (rl foldl_append ?_));rfl
 have hnew:=GE (done:=done) (w:=w) (ns:=pre) (p:=(W,seen));have hpm:=(Js (done:=done) (w:=w) (ns:=pre) (p:=(W,seen))).1.length_le;have wk':=WaysOk.fold (p:=(W,seen)) K.wk (hdom _ hin) w2 hxl (done:=done) (w:=w);have pd':=K.more D hwm hin;have se':∀z∈((nd (AH w)).foldl (AR done w) (W,seen)).2,∀s,d z=some s->T<=i+1+s:=λz hz s hs=>by
  rcases GE.2 z hz with h|h
  ·have:=K.se z h s hs;lia
  ·have:=hq z h s hs;lia
 have wl':∀v∈((nd (AH w)).foldl (AR done w) (W,seen)).1,v.length<=i+1+2:=λv hv=>by
  rcases GE.1 v hv with h|⟨o,_,_,rfl⟩
  ·exact le_succ_of_le (K.wl v h)
  ·refine rl length_append (rl hwl ?_);exact le_succ _
 rw[hfold]at wk' pd' se' wl'⊢;generalize pre.foldl (AR done w) (W,seen)=p1 at*;have hy1:y∉p1.2:=λh=>by
  rcases hnew.2 y h with h|h
  ·have:=K.se y h _ hdy;lia
  ·exact hpre y h hdy
 have hbs:AR done w p1 y=(p1.1++[w++[y]],p1.2++[y]):=if_neg (not_or.mpr ⟨hy1,λh=>by rw[hdd y h]at hdy;trivial⟩);refine e11 ((Js (done:=done) (w:=w) (ns:=post) (p:=AR done w p1 y)).1) λt ht=>?_;rw[hbs]at ht wk' pd' se' wl'⊢;refine⟨p1.1.length,hi,?_,lt_of_lt_of_le hxl hpm,wl',λj v h1 h2 h3=>?_,se',wk',pd'⟩
 ·refine rl (Eq.symm (ht ..)) (rl (append_assoc ..) (rl (getElem?_append_right (le_refl _) ..) (rl (sub_self ..) (rl (B0 hy ..) (rl (Eq.symm (hwP ..)) ?_)))));rfl
 ·rw[<-ht,append_assoc,getElem?_append_left h2]at h3;rcases hnew.1 v (mem_of_getElem? h3)with h|⟨o,ho,_,rfl⟩
  ·refine⟨K.wl v h,λs hs=>?_⟩;obtain⟨j',hj',rfl⟩:=mem_iff_getElem.mp h;have:=K.se _ (mem_of_getElem? (K.wk.last j' _ (getElem?_eq_getElem hj')).2.2) s hs;lia
  ·refine⟨by refine rl length_append (rl hwl ?_);exact le_refl _,λs hs=>?_⟩;rw[Ia]at hs;have h4:=hq o (by exact rl hlast (rl hnd (mem_append_left _ ho))) s hs;have h5:s≠T - i - 1:=λe=>hpre o ho (by exact rl hs (rl e rfl));lia
theorem Un(D:Dist full nd done dom d)(hdd:∀x∈done,d x=none)(hdom:∀x∈full,∀o∈nd x,o∈dom)(hP:GP nd d T name P)(hl:P.length=T)(hfu:fuel+place=dom.length+1)(K:KInv full nd done dom d T P i idx W seen place):Gq full nd done fuel W seen place=P:=by
 induction fuel generalizing W seen place i idx with
 |zero=>
  have:=K.wk.small;have:=(AJ K.at').1;have:=K.pl;lia
 |succ fuel ih=>
  have hidx:=(AJ K.at').1;have hlt:place<W.length:=lt_of_le_of_lt K.pl hidx;have hw:=getElem?_eq_getElem hlt;generalize W[place]=w at hw;refine rl ND<|rl hw ?_;show(if AH w∈full then _ else w)=P;have hfu':fuel+(place+1)=dom.length+1:=by refine rl hfu.symm ?_;exact HL
  rcases Nat.lt_or_eq_of_le K.pl with hp|hp
  ·exact Ap (K.skip D hdom hw hp) λhin K'=>rl (if_pos hin) (ih hfu' K')
  ·rw[hp]at hw K hfu'⊢;have hwP:w=P.take (i+1):=Ak (hw.symm.trans K.at');have hi:i<P.length:=by exact rl hl K.i2
   have hx:=getElem?_eq_getElem hi;generalize P[i]=x at hx;have hlast:AH w=x:=by exact rl hwP (rl (B0 hx) (rl Ia rfl))
   have hwl:w.length=i+1:=by exact rl hwP (rl length_take (min_eq_left hi))
   have hdx:=hP.dv i x hx;by_cases hiT:i+1=T
   ·have hn:AH w∉full:=by
     exact rl hlast (((D.one x).mp (by refine rl hdx (rl hiT.symm ?_);exact congrArg some (Nat.add_sub_cancel_left i 1))).2.1)
    exact rl (if_neg hn) (rl hwP (take_of_length_le (by refine rl hl (rl hiT ?_);exact le_refl _)))
   ·have hi2:i+1<P.length:=by refine rl hl ?_;exact Nat.lt_of_le_of_ne K.i2 hiT
    have hin:AH w∈full:=by
     exact rl hlast ((D.far x _ hdx (by lia)).1)
    refine e11 (K.hit D hdd hdom hP hw hwP hx (getElem?_eq_getElem hi2) (hl▸hi2) hlast hwl hin) λidx' K'=>?_;exact rl (if_pos hin) (ih hfu' K')
theorem Tt(D:Dist full nd done dom d)(hdd:∀x∈done,d x=none)(hdom:∀x∈full,∀o∈nd x,o∈dom)(hn:name∈dom)(hT:d name=some T)(hP:GP nd d T name P)(hl:P.length=T):IQ full nd done dom.length name=P:=by
 have hT1:=D.pos name T hT;have l1:AH [name]=name:=rfl;have one:∀{w:List Str},w∈[[name]]->w=[name]:=λh=>mem_singleton.mp h;refine Un (i:=0) (idx:=0) D hdd hdom hP hl (Nat.add_zero _) ⟨hT1,?_,le_refl _,λw hw=>by refine rl (one hw) ?_;exact le_succ 1,λj w h1 h2=>absurd h2 (not_lt_zero j),λx hx s hs=>?_,⟨rfl,nodup_cons.mpr ⟨not_mem_nil,nodup_nil⟩,λx hx=>by refine rl (mem_singleton.mp hx) ?_;exact hn,λj w hj=>?_⟩,λw hw=>?_⟩
 ·refine rl (B0 hP.hd) ?_;rfl
 ·rw[mem_singleton.mp hx,hT]at hs;refine rl (Ak hs ..) (rl (zero_add ..) ?_);exact le_refl _
 ·cases j with
  |zero=>obtain rfl:=Ak hj;exact⟨λz=>by trivial,le_refl _,rfl⟩
  |succ j=>trivial
 ·refine rl (one hw) (rl l1 ⟨λz=>by rw[hdd name z]at hT;trivial,λs hs=>?_⟩);rw[hT]at hs;refine rl (Ak hs) ?_;exact le_refl _
end
structure Lay(full:List Str)(nd:Str->List Str)(done dom:List Str)(d:Str->Option Nat)(t:Nat):Prop where
 t1:1<=t
 one:∀x,d x=some 1↔x∈dom/\x∉full/\x∉done
 rng:∀x v,d x=some v->1<=v/\v<=t
 far:∀x v,d x=some v->v≠1->x∈full/\∃o∈nd x,d o=some (v - 1)
 low:∀x v,d x=some v->v≠1->∀o∈nd x,∀s,d o=some s->v<=s+1
 cls:∀x∈full,∀o∈nd x,∀s,d o=some s->s<t->d x≠none
noncomputable def D8(nd:Str->List Str)(d:Str->Option Nat)(x:Str):Bool:=!(d x).isSome&&(nd x).any λo=>(d o).isSome
theorem FE[Decidable p](h:(if p then some a else o)=some b):(p/\b=a)\/(¬ p/\o=some b):=by
 by_cases q:p
 ·rw[if_pos q]at h;exact .inl ⟨q,(Ak h).symm⟩
 ·rw[if_neg q]at h;exact .inr ⟨q,h⟩
theorem Lay.init:Lay full nd done dom (λx=>if x∈dom/\x∉full/\x∉done then some 1 else none) 1:=by
 have one:∀{x v},(if x∈dom/\x∉full/\x∉done then some 1 else none)=some v->(x∈dom/\x∉full/\x∉done)/\v=1:=λh=>(FE h).resolve_right λz=>by have:=z.2;trivial
 refine⟨le_refl _,λx=>⟨λh=>(one h).1,λh=>if_pos h⟩,λx v h=>?_,λx v h hv=>absurd (one h).2 hv,λx v h hv=>absurd (one h).2 hv,λx hx o ho s hs hlt=>?_⟩
 ·exact rl ((one h).2) ⟨le_refl _,le_refl _⟩
 ·rw[(one hs).2]at hlt;exact absurd hlt (lt_irrefl 1)
theorem Lay.next(L:Lay full nd done dom d t):Lay full nd done dom (λx=>if x∈full.filter (D8 nd d) then some (t+1) else d x) (t+1):=by
 have hfr:∀x,x∈full.filter (D8 nd d)↔x∈full/\d x=none/\∃o∈nd x,∃s,d o=some s:=λx=>by
  rw[mem_filter];simp only[D8,Bool.and_eq_true,Bool.not_eq_true',any_eq_true,isSome_iff_exists,Option.isSome_eq_false_iff,Option.isNone_iff_eq_none]
 generalize full.filter (D8 nd d)=F at hfr;have hold:∀x s,d x=some s->(if x∈F then some (t+1) else d x)=some s:=λx s h=>(if_neg λz=>by rw[((hfr x).mp z).2.1]at h;trivial).trans h;have hge:∀x∈full,d x=none->∀o∈nd x,∀s,d o=some s->t<=s:=λx hx hn o ho s hs=>Nat.le_of_not_lt λh=>absurd hn (L.cls x hx o ho s hs h);have t1:=L.t1;refine⟨le_succ_of_le t1,λx=>⟨λh=>?_,λh=>hold x 1 ((L.one x).mpr h)⟩,λx v h=>?_,λx v h hv=>?_,λx v h hv o ho s hs=>?_,λx hx o ho s hs hlt=>?_⟩
 ·rcases FE h with⟨_,e⟩|⟨_,e⟩
  ·exact absurd (Nat.succ.inj e).symm (ne_of_gt t1)
  ·exact(L.one x).mp e
 ·rcases FE h with⟨_,e⟩|⟨_,e⟩
  ·exact rl e ⟨Nat.le_add_left _ _,le_refl _⟩
  ·exact⟨(L.rng x v e).1,le_succ_of_le (L.rng x v e).2⟩
 ·rcases FE h with⟨z,e⟩|⟨_,e⟩
  ·obtain⟨a,b,o,ho,s,hs⟩:=(hfr x).mp z;refine⟨a,o,ho,(hold o s hs).trans ?_⟩;refine rl e (rl (Nat.le_antisymm (L.rng o s hs).2 (hge x a b o ho s hs)) ?_);rfl
  ·obtain⟨a,o,ho,hs⟩:=L.far x v e hv;exact⟨a,o,ho,hold o _ hs⟩
 ·rcases FE hs with⟨_,e⟩|⟨_,e⟩
  ·refine rl e ?_;rcases FE h with⟨_,e⟩|⟨_,e⟩
   ·exact rl e (le_succ _)
   ·exact le_trans (L.rng x v e).2 (Nat.le_add_right t 2)
  ·rcases FE h with⟨z,e2⟩|⟨_,e2⟩
   ·exact Br ((hfr x).mp z) λa b _=>rl e2 (succ_le_succ (hge x a b o ho s e))
   ·exact L.low x v e2 hv o ho s e
 ·rcases FE hs with⟨_,e⟩|⟨_,e⟩
  ·rw[e]at hlt;exact absurd hlt (lt_irrefl _)
  ·intro hn;by_cases z:x∈F
   ·rw[if_pos z]at hn;trivial
   ·rw[if_neg z]at hn;exact z ((hfr x).mpr ⟨hx,hn,o,ho,s,e⟩)
def DistAt(H:Ac)(z:Addr)(d:Str->Option Nat)(B:Nat):Prop:=∃ep es,H z=some (.dict ep es)/\es.length<=B/\∀x,Bb es x=(d x).map λv=>AV.int ((v:Nat):Int)
section
variable{Q:AV->Ac->Prop}{H H':Ac}{d:Str->Option Nat}
theorem DistAt.ext(h:DistAt H z d B)(e:Ext H H'):DistAt H' z d B:=by
 refine e22 h λep es h1 h2=>?_;exact⟨ep,es,e _ _ h1,h2⟩
theorem DistAt.win(h:DistAt H z d B)(q:Q (.bool ((d x).isSome != no)) H):win no (.str x) (.ref z) Q H:=by
 exact e23 h λep es h1 _ h3=>Ik h1<|rl (h3 ..) (rl (isSome_map ..) q)
theorem DistAt.sub(h:DistAt H z d B)(hv:d x=some v)(q:Q (.int ((v:Nat):Int)) H):A8 (.ref z) (.str x) Q H:=by
 refine e23 h λep es h1 _ h3=>?_;simp only[DL,CU,GT,h1];exact⟨_,by refine rl (h3 ..) (rl (hv ..) ?_);rfl,q⟩
theorem DistAt.put(h2:es.length<=B)(h3:∀x,Bb es x=(d x).map λv=>AV.int ((v:Nat):Int)):DistAt (up H z (.dict ep' (AI es x (.int ((v:Nat):Int))))) z (λy=>if y=x then some v else d y) (B+1):=by
 refine⟨ep',_,Ah,by have:=JL (es:=es) (k:=x) (v:=.int ((v:Nat):Int));exact HN this h2,λy=>rl P9 ?_⟩;by_cases h:y=x
 ·simp[h]
 ·simp[h,h3]
end
theorem PB(D:Dist full f done dom d)(hdd:∀x∈done,d x=none)(Gr:Grt full f done gl)(v:Nat)(x:Str)(h:d x=some v):x∉gl:=by
 induction v generalizing x with
 |zero=>have:=D.pos x 0 h;trivial
 |succ v ih=>
  intro hx;by_cases h1:v+1=1
  ·rw[h1]at h;exact((D.one x).mp h).2.1 (Gr.sub.subset hx)
  ·obtain⟨_,o,ho,hs⟩:=D.far x _ h h1;rcases Gr.met x hx o ho with z|z
   ·exact ih o hs z
   ·rw[hdd o z]at hs;trivial
theorem OQ(D:Dist full f done dom d)(hdom:∀x∈full,∀o∈f x,o∈dom)(Gr:Grt full f done gl)(hx:x∈dom)(h:d x=none)(hd:x∉done):x∈full/\x∈gl:=by
 have out:∀y∈dom,d y=none->y∉done->y∈full:=λy hy hn hyd=>Classical.byContradiction λhf=>by
  rw[(D.one y).mpr ⟨hy,hf,hyd⟩]at hn;trivial
 refine⟨out x hx h hd,Gr.top (λy=>y∈full/\d y=none) (λy hy=>⟨hy.1,λo ho=>?_⟩) x ⟨out x hx h hd,h⟩⟩;have hon:d o=none:=by
  cases hs:d o with
  |none=>rfl
  |some s=>
   refine e12 (D.near y hy.1 o ho s hs) λv hv _=>?_;rw[hy.2]at hv;trivial
 by_cases hod:o∈done
 ·exact .inr hod
 ·exact .inl ⟨out o (hdom y hy.1 o ho) hon hod,hon⟩
theorem VJ(h:l.filter p=y::r):∃pre post,l=pre++y::post/\∀o∈pre,p o=false:=by
 induction l with
 |nil=>trivial
 |cons a l ih=>
  rw[filter_cons]at h;cases hp:p a with
  |true=>
   rw[hp,if_pos rfl]at h;exact⟨[],l,by refine rl ((List.cons.inj h).1) ?_;rfl,λo ho=>by trivial⟩
  |false=>
   rw[hp,if_neg Bool.false_ne_true]at h;exact e22 (ih h) λpre post e hq=>⟨a::pre,post,by refine rl e ?_;rfl,λo ho=>(mem_cons.mp ho).elim (λz=>by exact rl z hp) (hq o)⟩
theorem GP.snoc{nd:Str->List Str}{d:Str->Option Nat}{T}(h:GP nd d T name (P++[x]))(hy:d y=some (T - P.length - 1))(hn:nd x=pre++y::post)(hp:∀o∈pre,d o≠some (T - P.length - 1)):GP nd d T name (P++[x]++[y]):=by
 have hl:(P++[x]).length=P.length+1:=length_append;refine⟨by refine rl (getElem?_append_left (by rw[hl];exact succ_pos _)) ?_;exact h.hd,λi z hz=>?_,λi a b ha hb=>?_⟩
 ·rcases JF hz with⟨_,hz⟩|⟨e,e'⟩
  ·exact h.dv i z hz
  ·exact rl e (rl e' (rl hl hy))
 ·rcases JF hb with⟨_,hb⟩|⟨e,e'⟩
  ·have hi:i<(P++[x]).length:=Nat.lt_of_succ_lt (AJ hb).1;rw[getElem?_append_left hi]at ha;exact h.nx i a b ha hb
  ·have ei:i=P.length:=Nat.succ.inj (e.trans hl);rw[ei,getElem?_append_left (rl hl (lt_succ_self _)),getElem?_append_right (le_refl _),sub_self]at ha;exact rl (Eq.symm (Ak ha)) (rl e' (rl ei ⟨pre,post,hn,hp⟩))
section
variable(G:Gd c P)(U:Bt P)
include G U
set_option tactic.hygienic true in
theorem Sq{x:Str}{e:Nat×Pc}{dom:List Str}(kx:Kn H (.str x))(hU:P.fns.lookup "Book.why_not"=some BK.Zq)(hU0:P.fns.lookup "Book.standing"=some BK.Zi)(hU1:P.fns.lookup "Pact.is_full"=some BK.Za)(g0:P.fns.lookup "chain"=some BK.Zk)(g1:P.fns.lookup "greatest"=some BK.Zg)(g2:P.fns.lookup "are_met"=some BK.Zc)(g3:P.fns.lookup "table_of"=some BK.Zd)
  (hb:H b=some (.book B))(ok:BkOK B)(nd:(B.pacts.map (·.name)).Nodup)(he:BY B (.str x)=some e)(hdom:x∈dom)(hdom':∀y∈AG B.pacts,∀o∈AX B y,o∈dom)(hdl:dom.length<=900)
  (q:∀z g,H z=none->Grt (AG B.pacts) (AX B) (Bv B.pacts) g->Q (.ref z) (up H z (.list (Ae (if x∈Bv B.pacts\/x∈g then[] else IQ (AG B.pacts) (AX B) (Bv B.pacts) dom.length x))))):CallOK c (n+4) true "Book.why_not" [.ref b,.str x] Q E H:=by
 refine D_ hb λH₂ o f s p as ib hold=>G.call (F:=BK.Zq) hU rfl ?_;have hM:c.P.meths=BK.meths:=by exact rl G.hP (rl U.a.meths rfl)
 refine Ab λK nx=>?_;dsimp only[AP];refine Cl hM (by decide) (by decide) ib rfl<|HY (n:=n+1) G U ib (kx.open hb hold)<|rl he ?_;intro a _ _;refine nx _ _<|Ab λK nx=>?_;dsimp only[At];refine Cl hM (by decide) (by decide) ib rfl<|N_ (n:=n+1) G U hU0 hU1 ib ok nd λzt r d e o1 H1 hzt zto ro dO eo ht hr hd he ib1 f1=>⟨show 2<3 by decide,nx _ _ ?_⟩
 refine Ab λK nx=>?_;show A4 _ _ _ _ _ [some (.ref b),some (.str x),some (.ref zt)] _;dsimp only[ne_eq,Bp,A6,Al,An,Au,Aq,Ad,getElem?_cons_succ,Aw];refine EH (v:=.ref r) ht (by decide) rfl (by simp)<|EH (v:=.ref d) ht (by decide) rfl (by simp)<|EH (v:=.ref e) ht (by decide) rfl (by simp) ?_;have lp:=ok.len;refine Wq G g0 g1 g2 g3 hr hd he (le_trans Fe (by exact le_trans (by assumption) (by decide))) (le_trans LG (by exact le_trans (by assumption) (by decide))) hdom hdom' hdl λz H2 g hE hz0 hg hz2=>e13 (ib1.extZ hE hz0) λo2 ib2 f2 zo2=>?_;have hz:=Gg G U.a hb ib hold (f1.gr z hz0);exact⟨o2,f,s,p,as,B,ib2,f1.trans f2,.inr ⟨z,_,rfl,hz,hz2,zo2,by exact rl (DB hb) (q z g hz hg)⟩⟩
end
structure Rd where
 nm:Str
 ps:List (Str×Int)
 gs:List (Str×Int)
 ns:List Str
 last:Int
noncomputable def Pc.rd(x:Pc):Rd:=⟨x.name,x.parts,x.gains,x.needs,x.last⟩
structure Rok(pur:List Str)(rs:List Rd):Prop where
 pl:pur.length<=100
 pn:∀s∈pur,A9 s=true
 ok:∀r∈rs,IR pur r.nm r.ps r.gs r.ns r.last
 nd:(rs.map (·.nm)).Nodup
 nm:∀r∈rs,A9 r.nm=true
 len:rs.length<=60
structure Iv(pur:List Str)(rs:List Rd)(B:Bk):Prop where
 fk:B.free.map (·.1)=pur
 ak:B.aside.map (·.1)=pur
 kp:B.pacts.map Pc.rd=rs
 ins:∀x∈B.pacts,(∀k∈x.inside,k∈x.parts.map (·.1))/\x.inside.Nodup
def NF(B:Bk):Prop:=∀x∈B.pacts,x.state = .opn->∀s∈x.needs,BA B s=false
theorem Rok.take(R:Rok pur rs)(k:Nat):Rok pur (rs.take k):=
 ⟨R.pl,R.pn,λr h=>R.ok r (mem_of_mem_take h),R.nd.sublist ((take_sublist _ _).map _),λr h=>R.nm r (mem_of_mem_take h),le_trans (rl length_take (min_le_right _ _)) R.len⟩
theorem Iv.names(I:Iv pur rs B):B.pacts.map (·.name)=rs.map (·.nm):=by refine rl I.kp.symm (rl map_map ?_);rfl
theorem Iv.ln(I:Iv pur rs B):B.pacts.length=rs.length:=by exact rl (Eq.symm (I.kp ..)) (rl (length_map ..) rfl)
theorem Iv.mem(I:Iv pur rs B)(h:x∈B.pacts):x.rd∈rs:=by exact rl I.kp.symm (mem_map_of_mem h)
theorem Iv.nd(R:Rok pur rs)(I:Iv pur rs B):(B.pacts.map (·.name)).Nodup:=by exact rl I.names R.nd
theorem Iv.ok(R:Rok pur rs)(I:Iv pur rs B):BkOK B:=by
 have l1:B.free.length=pur.length:=by exact rl (Eq.symm (I.fk ..)) (rl (length_map ..) rfl)
 have l2:B.aside.length=pur.length:=by exact rl (Eq.symm (I.ak ..)) (rl (length_map ..) rfl)
 have at_:∀{j:Nat} {x:Pc},B.pacts[j]? =some x->x∈B.pacts:=λh=>mem_of_getElem? h;refine⟨⟨by refine rl l1 ?_;exact le_trans R.pl (by decide),by refine rl l2 ?_;exact le_trans R.pl (by decide)⟩,λk hk=>(DN I.ak).mpr ((DN I.fk).mp hk),by refine rl I.ln ?_;exact le_trans R.len (by decide),λj x hx k hk=>?_,λj x hx=>?_,λj x hx e he=>?_⟩
 ·exact(DN rfl).mpr ((I.ins x (at_ hx)).1 k hk)
 ·have p:=R.ok _ (I.mem (at_ hx));have q:=I.ins x (at_ hx);have l8:(8:Nat)<=100:=by decide
  have:=QF q.2 q.1;rw[length_map]at this;exact⟨le_trans this (le_trans p.p.l.2 l8),le_trans p.p.l.2 l8,le_trans p.g.l.2 l8,le_trans p.l3 l8⟩
 ·have p:=R.ok _ (I.mem (at_ hx));exact(DN I.fk).mpr (he.elim (λh=>(p.p.m e h).1) λh=>(p.g.m e h).1)
theorem Iv.turn(I:Iv pur rs B)(hj:B.pacts[j]? =some x)(e:x'.rd=x.rd)(q:(∀k∈x'.inside,k∈x'.parts.map (·.1))/\x'.inside.Nodup)(ps:B'.pacts=B.pacts.set j x')(f:B'.free.map (·.1)=B.free.map (·.1))(a:B'.aside.map (·.1)=B.aside.map (·.1)):Iv pur rs B':=by
 refine⟨f.trans I.fk,a.trans I.ak,by refine rl ps (rl (P7 hj e) ?_);exact I.kp,λy hy=>?_⟩;rw[ps]at hy;rcases List.mem_or_eq_of_mem_set hy with h|h
 ·exact I.ins y h
 ·refine rl h ?_;exact q
theorem Iv.step{st}(I:Iv pur rs B)(h:IO B B' j x st):Iv pur rs B':=I.turn h.at_ (x':=x.end st) rfl ⟨(λk hk=>by trivial),nodup_nil⟩ h.ps h.f.k h.a.k
theorem Iv.day(I:Iv pur rs B)(d:Int):Iv pur rs {B with day:=d}:=⟨I.fk,I.ak,I.kp,I.ins⟩
theorem Iv.off(R:Rok pur rs)(I:Iv pur rs B)(h:Bs B w = .ok r):Iv pur rs r.1:=VS (P:=Iv pur rs) (λI=>I.ok R) (λI h=>I.step h) I h
theorem Iv.pass(R:Rok pur rs)(I:Iv pur rs B)(h:Ek B w = .ok r):Iv pur rs r.1:=U2 (P:=Iv pur rs) (λI=>I.ok R) (λI h=>I.step h) (λd I=>I.day d) I h
theorem Iv.settle(R:Rok pur rs)(I:Iv pur rs B)(h:g.Sublist (AG B.pacts)):Iv pur rs (C0 g B):=
 have:=Oy (I.nd R) h
 Oa (P:=Iv pur rs) (λI=>I.ok R) (λI h=>I.step h) I this.1 this.2
inductive R0(B:Bk)(k:Str)(B':Bk):Prop
 |mk (j:Nat) (x:Pc) (hj:B.pacts[j]? =some x) (hk:hs B.free k=true) (hp:hs x.parts k=true) (hin:k∉x.inside) (ps:B'.pacts=B.pacts.set j {x with inside:=x.inside++[k]}) (f:B'.free=pt B.free k ((lk B.free k).getD 0 - (lk x.parts k).getD 0)) (a:B'.aside=pt B.aside k ((lk B.aside k).getD 0+(lk x.parts k).getD 0))
theorem NE(h:Dh B (.str k) (.str nm) = .ok B'):R0 B k B':=by
 refine Ap (Ej h) λhp h=>?_;cases hx:BY B (.str nm)with
 |none=>rw[hx]at h;trivial
 |some jx=>
 rw[hx]at h;replace h:=(Ej h).2;cases hi:lk jx.2.parts k with
 |none=>rw[show lk jx.2.parts (Bh (.str k))=none from hi]at h;trivial
 |some i=>
 rw[show lk jx.2.parts (Bh (.str k))=some i from hi]at h;refine Ap (Fg h) λhin h=>?_;cases(Fg h).2;exact⟨jx.1,jx.2,Ig hx,(G4 hp).2,by unfold hs;refine rl hi ?_;rfl,hin,rfl,by refine rl hi ?_;rfl,by refine rl hi ?_;rfl⟩
theorem Iv.aside(I:Iv pur rs B)(h:Dh B (.str k) (.str nm) = .ok B'):Iv pur rs B':=by
 obtain⟨j,x,hj,hk,hp,hin,ps,f,a⟩:=NE h;have p:=I.ins x (mem_of_getElem? hj);refine I.turn (x':={x with inside:=x.inside++[k]}) hj rfl ⟨λs hs=>?_,?_⟩ ps (rl f (JR hk)) (rl a (JR ((DN I.ak).mpr ((DN I.fk).mp hk))))
 ·rcases mem_append.mp hs with hs|hs
  ·exact p.1 s hs
  ·exact rl (mem_singleton.mp hs) ((DN rfl).mp hp)
 ·exact nodup_append.mpr ⟨p.2,nodup_cons.mpr ⟨not_mem_nil,nodup_nil⟩,λa ha b hb=>rl (mem_singleton.mp hb) (λe=>hin (e▸ha))⟩
noncomputable def Pc.k3(x:Pc):Str×List Str×Sta:=(x.name,x.needs,x.state)
theorem VN(h:ps.map Pc.k3=ps'.map Pc.k3)(k:Str):(AU ps k).map (·.2.k3)=(AU ps' k).map (·.2.k3):=by
 induction ps generalizing ps' with
 |nil=>cases ps' with
  |nil=>rfl
  |cons=>trivial
 |cons x ps ih=>cases ps' with
  |nil=>trivial
  |cons y ps'=>
   refine Ap (List.cons.inj h) λh1 h2=>?_;have hn:x.name=y.name:=congrArg (·.1) h1;refine rl Du (rl Du ?_);by_cases e:x.name=k
   ·exact rl (if_pos e) (rl (if_pos (hn▸e)) (congrArg some h1))
   ·exact rl (if_neg e ..) (rl (if_neg (hn▸e) ..) (rl (Option.map_map ..) (rl (Option.map_map ..) (ih h2))))
theorem US:BA B k=match(AU B.pacts k).map (·.2.k3)with|some e=>e.2.2==.fln|none=>false:=by
 unfold BA;cases AU B.pacts k<;>rfl
theorem NF.cong(N:NF B)(h:B'.pacts.map Pc.k3=B.pacts.map Pc.k3):NF B':=λx hx ho s hs=>by
 have:x.k3∈B.pacts.map Pc.k3:=by exact rl h.symm (mem_map_of_mem hx)
 refine e12 (mem_map.mp this) λy hy e=>?_;have e1:y.needs=x.needs:=congrArg (·.2.1) e;have e2:y.state=x.state:=congrArg (·.2.2) e;have:=N y hy (e2.trans ho) s (e1▸hs);rw[US]at this⊢;exact rl (VN h ..) this
theorem NF.aside(N:NF B)(h:Dh B (.str k) (.str nm) = .ok B'):NF B':=
 let ⟨j,x,hj,_,_,_,ps,_,_⟩:=NE h
 N.cong (rl ps (P7 hj rfl))
theorem Xh(h:CV B=none):NF B:=λx hx ho s hs=>by
 obtain⟨j,hj,e⟩:=mem_iff_getElem.mp hx;cases hf:BA B s with
 |false=>rfl
 |true=>
  have hd:Ep B x=true:=by
   unfold Ep;exact rl ho (any_eq_true.mpr ⟨s,hs,hf⟩)
  exfalso
  have:∀{ps:List Pc} {m:Nat},FQ (Ep B) ps=none->ps[m]? =some x->False:=λ{ps}=>by
   induction ps with
   |nil=>exact λ_ h=>by trivial
   |cons y ps ih=>
    intro m h1 h2;rw[IP]at h1;cases m with
    |zero=>obtain rfl:=Ak h2;rw[if_pos hd]at h1;trivial
    |succ m=>
     by_cases q:Ep B y=true
     ·rw[if_pos q]at h1;trivial
     ·rw[if_neg q,map_eq_none_iff]at h1;exact ih h1 h2
  exact this h (by exact rl (getElem?_eq_getElem hj) (rl e rfl))
theorem Mi:∀{n:Nat} {B:Bk} {l:List Str},IL B<=n->NF (Dp n B l).1
 | 0,B,l,h=>λx hx ho=>by
  have:=List.countP_eq_zero.mp (Nat.le_zero.mp h) x hx;exact absurd (beq_iff_eq.mpr ho) this
 |n+1,B,l,h=>by
  cases e:CV B with
  |none=>exact rl (Lo e) (Xh e)
  |some w=>
   refine Ap (Mp (m:=w.1) (x:=w.2) e) λh1 h2=>rl (Ln e) ?_;have:=Oh (B:=B) h1 (Bool.and_eq_true _ _▸h2:_/\_).1;exact Mi (HP this h)
theorem RI(h:Bs B w = .ok r):NF r.1:=by
 unfold Bs at h;cases hx:BY B w with
 |none=>rw[hx]at h;trivial
 |some e=>
  rw[hx]at h;refine Ap (Ej h) λ_ h=>?_;obtain rfl:=Except.ok.inj h;exact Mi (le_trans LV (rl fell_len (le_refl _)))
theorem Xg(ok:BkOK B)(h:Ek B w = .ok r):NF r.1:=by
 refine Ap (Ej h) λ_ h=>?_;obtain rfl:=Except.ok.inj h;exact Mi (le_trans LV (rl ((Ml (ok.day _) _).2.1) (le_refl _)))
noncomputable def Bm(g:List Str)(x:Pc):Pc:=if x.name∈g then x.end .dn else x
section
variable{ps:List Pc}{g:List Str}
theorem dnM_name:(Bm g x).name=x.name:=by unfold Bm;split<;>rfl
theorem OY:(Bm g x).needs=x.needs:=by unfold Bm;split<;>rfl
theorem PM:(ps.map (Bm g)).map (·.name)=ps.map (·.name):=by
 exact rl map_map (map_congr_left λx _=>dnM_name)
theorem Mb(hf:∀x,(f x).name=x.name):AU (ps.map f) k=(AU ps k).map λe=>(e.1,f e.2):=by
 induction ps with
 |nil=>rfl
 |cons y ps ih=>
  refine rl Du (rl Du (rl (hf ..) ?_));by_cases e:y.name=k
  ·refine rl (if_pos e ..) (rl (if_pos e ..) ?_);rfl
  ·refine rl (if_neg e ..) (rl (if_neg e ..) (rl (ih ..) (rl (Option.map_map ..) (rl (Option.map_map ..) ?_))));rfl
theorem WM{j:Nat}{f:Pc->Pc}(nd:(ps.map (·.name)).Nodup)(h:ps[j]? =some x):ps.set j (f x)=ps.map λy=>if y.name=x.name then f y else y:=by
 induction ps generalizing j with
 |nil=>trivial
 |cons y ps ih=>
  obtain⟨n1,n2⟩:=nodup_cons.mp nd;cases j with
  |zero=>
   obtain rfl:=Ak h;refine rl set_cons_zero (rl map_cons (rl (if_pos rfl) ?_));congr 1;refine(List.map_id'' (λz=>?_) ps).symm.trans (map_congr_left λz hz=>(if_neg λe=>n1 ?_).symm)
   ·rfl
   ·exact mem_map.mpr ⟨z,hz,e⟩
  |succ j=>
   rw[set_cons_succ,map_cons,if_neg,ih n2 h];exact λe=>n1 (mem_map.mpr ⟨x,mem_of_getElem? h,e.symm⟩)
theorem Os:∀{g:List Str} {B:Bk},(B.pacts.map (·.name)).Nodup->(∀k∈g,∃e,AU B.pacts k=some e)->(C0 g B).pacts=B.pacts.map (Bm g)
 |[],B,_,_=>by
  refine(List.map_id'' (λz=>rfl) _).symm.trans (map_congr_left λz _=>(if_neg not_mem_nil).symm)
 |k::g,B,nd,h=>by
  refine e11 (h k (.head _)) λz00 e=>?_;obtain⟨j,x⟩:=z00;obtain⟨hj,hn⟩:=D5 e;have hd:(FM B j x).pacts=B.pacts.map λy=>if y.name=x.name then y.end .dn else y:=WM (f:=λy=>y.end .dn) nd hj;have hm:∀y:Pc,(if y.name=x.name then y.end .dn else y).name=y.name:=λy=>by split<;>rfl
  refine rl LM<|rl e ?_;rw[Os (g:=g) (B:=FM B j x) (by rw[hd,map_map];exact(map_congr_left (λy _=>hm y))▸nd) (λs hs=>?_),hd,map_map]
  ·refine map_congr_left λy _=>?_;show Bm g (if y.name=x.name then y.end .dn else y)=_;unfold Bm;refine rl (hm ..) ?_;by_cases q:y.name=x.name
   ·refine rl (if_pos q ..) (rl (if_pos (show y.name∈k::g by refine rl q (rl hn ?_);exact mem_cons_self ..) ..) ?_);split<;>rfl
   ·refine rl (if_neg q ..) ?_;have:y.name∈k::g↔y.name∈g:=by rw[mem_cons,<-hn];exact⟨λz=>z.resolve_left q,.inr⟩
    by_cases z:y.name∈g
    ·exact rl (if_pos z) (rl (if_pos (this.mpr z)) rfl)
    ·exact rl (if_neg z) (rl (if_neg (λw=>z (this.mp w))) rfl)
  ·obtain⟨e',he'⟩:=h s (.tail _ hs);refine rl (hd ..) (rl (Mb hm ..) (rl (he' ..) ?_));exact⟨_,rfl⟩
theorem dn_full:AG (ps.map (Bm g))=(AG ps).filter λs=>!decide (s∈g):=by
 unfold AG;refine rl filter_map (rl map_map (rl filter_map (rl List.filter_filter ((map_congr_left λx _=>dnM_name (g:=g)).trans (congrArg (List.map λx:Pc=>x.name) (List.filter_congr λx _=>?_))))));show CX (Bm g x)=(!decide (x.name∈g)&&CX x)
 unfold Bm;by_cases q:x.name∈g
 ·refine rl (if_pos q) (rl (decide_eq_true q) ?_);rfl
 ·refine rl (if_neg q) (rl (decide_eq_false q) ?_);rfl
theorem XH(h:∀s∈g,s∈ps.map (·.name)):y∈Bv (ps.map (Bm g))↔y∈Bv ps\/y∈g:=by
 unfold Bv;refine rl filter_map (rl map_map ?_);constructor
 ·intro hy;refine e12 (mem_map.mp hy) λx hx z12=>?_;obtain rfl:=z12;obtain⟨h1,h2⟩:=mem_filter.mp hx;show(Bm g x).name∈_\/(Bm g x).name∈g;refine rl dnM_name ?_;by_cases q:x.name∈g
  ·exact .inr q
  ·refine .inl (mem_map.mpr ⟨x,mem_filter.mpr ⟨h1,?_⟩,rfl⟩);have h2:((Bm g x).state==.dn)=true:=h2;unfold Bm at h2;rw[if_neg q]at h2;exact h2
 ·have mk:∀x∈ps,((Bm g x).state==.dn)=true->x.name∈List.map ((·.name) ∘ Bm g) (List.filter ((λx=>x.state==.dn) ∘ Bm g) ps):=λx hx h=>mem_map.mpr ⟨x,mem_filter.mpr ⟨hx,h⟩,dnM_name⟩;rintro(hy|hy)
  ·refine e12 (mem_map.mp hy) λx hx z22=>?_;obtain rfl:=z22;obtain⟨h1,h2⟩:=mem_filter.mp hx;refine mk x h1 ?_;unfold Bm;split
   ·rfl
   ·exact h2
  ·refine e12 (mem_map.mp (h y hy)) λx hx z32=>?_;obtain rfl:=z32;refine mk x hx ?_;unfold Bm;refine rl (if_pos hy) ?_;rfl
end
theorem MO(h:B'.pacts=B.pacts.map (Bm g)):AX B'=AX B:=funext λk=>by
 unfold AX;refine rl h (rl (Mb (f:=Bm g) λx=>dnM_name) ?_);cases AU B.pacts k with
 |none=>rfl
 |some e=>exact OY
set_option tactic.hygienic true in
theorem UV(h:B'.pacts=B.pacts.map (Bm g))(hg:∀x∈B.pacts,x.name∈g->x.state = .opn):BA B' s=BA B s:=by
 unfold BA;refine rl h (rl (Mb (f:=Bm g) λx=>dnM_name) ?_);cases e:AU B.pacts s with
 |none=>rfl
 |some w=>
  show((Bm g w.2).state==.fln)=(w.2.state==.fln)
  unfold Bm;split
  ·refine rl (hg w.2 (mem_of_getElem? (D5 (j:=w.1) (q:=w.2) e).1) (by assumption)) ?_;rfl
  ·rfl
theorem NF.settle(N:NF B)(h:B'.pacts=B.pacts.map (Bm g))(hg:∀x∈B.pacts,x.name∈g->x.state = .opn):NF B':=λx hx ho s hs=>by
 refine rl (UV h hg) ?_;rw[h]at hx;refine e12 (mem_map.mp hx) λy hy z42=>?_;obtain rfl:=z42;rw[OY]at hs;unfold Bm at ho;split at ho
 ·trivial
 ·exact N y hy ho s hs
theorem Oo{l m:List Str}(h:l.Sublist m)(nd:m.Nodup):m.filter (λs=>decide (s∈l))=l:=by
 induction h with
 |slnil=>rfl
 |cons a h ih=>
  obtain⟨n1,n2⟩:=nodup_cons.mp nd;refine rl filter_cons (rl (if_neg (λz=>n1 (h.subset (of_decide_eq_true z)))) ?_);exact ih n2
 |cons_cons a h ih=>
  obtain⟨n1,n2⟩:=nodup_cons.mp nd;refine rl filter_cons (rl (if_pos (decide_eq_true (mem_cons_self ..))) ?_);congr 1;refine Eq.trans (List.filter_congr λs hs=>?_) (ih n2);have:s≠a:=λe=>n1 (e▸hs);rw[Bool.eq_iff_iff,decide_eq_true_eq,decide_eq_true_eq,mem_cons];exact⟨λz=>z.resolve_left this,.inr⟩
theorem Q5{l m:List Str}(h:l.Sublist m)(nd:m.Nodup)(e:∀s∈m,s∈l↔p s=true):l=m.filter p:=by
 refine(Oo h nd).symm.trans (List.filter_congr λs hs=>?_);rw[Bool.eq_iff_iff,decide_eq_true_eq];exact e s hs
theorem Grt.uniq(a:Grt full nd done g)(b:Grt full nd done g')(n:full.Nodup):g=g':=by
 exact(Q5 a.sub n (p:=λs=>decide (s∈g')) λs _=>rl decide_eq_true_eq ⟨λh=>b.top (·∈g) (λx hx=>⟨a.sub.subset hx,a.met x hx⟩) s h,λh=>a.top (·∈g') (λx hx=>⟨b.sub.subset hx,b.met x hx⟩) s h⟩).trans (Oo b.sub n)
theorem Grt.again(a:Grt full nd done g)(b:Grt (full.filter λs=>!decide (s∈g)) nd done' g')(hd:∀s,s∈done'↔s∈done\/s∈g):g'=[]:=by
 refine List.eq_nil_iff_forall_not_mem.mpr λx hx=>?_;have h1:=mem_filter.mp (b.sub.subset hx);have h2:x∈g:=a.top (λy=>y∈g\/y∈g') (λy hy=>?_) x (.inr hx)
 ·rw[decide_eq_true h2]at h1;exact absurd h1.2 Bool.false_ne_true
 ·rcases hy with hy|hy
  ·exact⟨a.sub.subset hy,λo ho=>(a.met y hy o ho).imp_left .inl⟩
  ·refine⟨(mem_filter.mp (b.sub.subset hy)).1,λo ho=>?_⟩;rcases b.met y hy o ho with z|z
   ·exact .inl (.inr z)
   ·exact((hd o).mp z).elim .inr λw=>.inl (.inl w)
section
variable{full:List Str}{nd:Str->List Str}{done dom:List Str}{d:Str->Option Nat}
theorem Nw(pos:∀x v,d x=some v->1<=v)(far:∀x v,d x=some v->v≠1->x∈full/\∃o∈nd x,d o=some (v - 1))(h:d x=some v):∃l:List Str,l.length+1=v/\l.Nodup/\∀y∈l,y∈full/\∃s,s<=v/\d y=some s:=by
 induction v generalizing x with
 |zero=>have:=pos x 0 h;trivial
 |succ v ih=>
  by_cases h1:v+1=1
  ·exact⟨[],by refine rl h1 ?_;rfl,nodup_nil,λy hy=>by trivial⟩
  ·obtain⟨hf,o,ho,hs⟩:=far x _ h h1;refine e13 (ih (x:=o) hs) λl a b c=>⟨x::l,by exact rl length_cons (rl a rfl),nodup_cons.mpr ⟨λhm=>?_,b⟩,λy hy=>?_⟩
   ·obtain⟨_,s,h2,h3⟩:=c x hm;rw[h]at h3;have:=Ak h3;lia
   ·rcases mem_cons.mp hy with e|hy
    ·exact rl e ⟨hf,_,le_refl _,h⟩
    ·obtain⟨e,s,h2,h3⟩:=c y hy;exact⟨e,s,le_succ_of_le h2,h3⟩
theorem Dist.le(D:Dist full nd done dom d)(h:d x=some v):v<=full.length+1:=by
 refine e13 (Nw D.pos D.far h) λl a b c=>?_;have:=JQ b λy hy=>(c y hy).1;lia
theorem Lay.end(L:Lay full nd done dom d t)(h:∀x∈full,∀o∈nd x,∀s,d o=some s->d x≠none):Dist full nd done dom d:=by
 refine⟨L.one,λx v h=>(L.rng x v h).1,L.far,λx hx o ho s hs=>?_⟩;cases hv:d x with
 |none=>exact absurd hv (h x hx o ho s hs)
 |some v=>
  refine⟨v,rfl,?_⟩;by_cases h1:v=1
  ·lia
  ·exact L.low x v hv h1 o ho s hs
theorem Lay.out(L:Lay full nd done dom d t)(ht:full.length<t):Dist full nd done dom d:=L.end λx hx o ho s hs hn=>by
 refine e13 (Nw (λx v h=>(L.rng x v h).1) L.far hs) λl a b c=>?_;have:=JQ (l:=x::l) (m:=full) (nodup_cons.mpr ⟨λhm=>by obtain⟨_,s,_,e⟩:=c x hm;rw[hn]at e;trivial,b⟩) (λy hy=>by
  rcases mem_cons.mp hy with e|hy
  ·exact rl e hx
  ·exact(c y hy).1)
 rw[length_cons]at this;exact L.cls x hx o ho s hs (Hv a this ht) hn
theorem Lay.still(L:Lay full nd done dom d t)(h:full.filter (D8 nd d)=[]):Dist full nd done dom d:=L.end λx hx o ho s hs hn=>by
 have:=filter_eq_nil_iff.mp h x hx;refine this ?_;unfold D8;exact rl hn (any_eq_true.mpr ⟨o,ho,by refine rl hs ?_;rfl⟩)
theorem Dist.off(D:Dist full nd done dom d)(hj:∀x∈full,x∉done):∀x∈done,d x=none:=λx hx=>by
 cases h:d x with
 |none=>rfl
 |some v=>
  by_cases h1:v=1
  ·rw[h1]at h;exact absurd hx ((D.one x).mp h).2.2
  ·exact absurd hx (hj x (D.far x v h h1).1)
structure Ki(nd:Str->List Str)(d:Str->Option Nat)(x:Str)(l:List Str):Prop where
 z:d x=none->l=[]
 s:∀T,d x=some T->l.length=T/\GP nd d T x l
noncomputable def G1(full:List Str)(nd:Str->List Str)(done g:List Str)(N:Nat)(x:Str):List Str:=if x∈done\/x∈g then[] else IQ full nd done N x
theorem Q4(D:Dist full nd done dom d)(hj:∀x∈full,x∉done)(hdom:∀x∈full,∀o∈nd x,o∈dom)(Gr:Grt full nd done g)(hx:x∈dom)(W:Ki nd d x l):G1 full nd done g dom.length x=l:=by
 have hdd:=D.off hj;unfold G1;cases h:d x with
 |none=>
  refine rl (W.z h) ?_;by_cases h1:x∈done
  ·exact if_pos (.inl h1)
  ·exact if_pos (.inr (OQ D hdom Gr hx h h1).2)
 |some T=>
  exact Ap (W.s T h) λh3 h4=>rl (if_neg (not_or.mpr ⟨λz=>by rw[hdd x z]at h;trivial,PB D hdd Gr T x h⟩))<|Tt D hdd hdom hx h h4 h3
theorem U9(D:Dist full nd done dom d)(hj:∀x∈full,x∉done)(hdom:∀x∈full,∀o∈nd x,o∈dom)(hfd:∀x∈full,x∈dom)(Gr:Grt full nd done g)(n:full.Nodup):g=full.filter λx=>!(d x).isSome:=by
 refine Q5 Gr.sub n λs hs=>?_;cases h:d s with
 |none=>exact⟨λ_=>rfl,λ_=>(OQ D hdom Gr (hfd s hs) h (hj s hs)).2⟩
 |some v=>exact⟨λz=>absurd z (PB D (D.off hj) Gr v s h),λz=>by trivial⟩
end
noncomputable def C8(B:Bk):List Str:=(B.pacts.map (·.name)).flatMap λk=>k::AX B k
noncomputable def Bn(ps:List Pc):List (Str×Sta):=ps.map λx=>(x.name,x.state)
section
variable{pur:List Str}{rs:List Rd}{B:Bk}
theorem JB(h:x∈B.pacts.map (·.name)):x∈C8 B:=List.mem_flatMap.mpr ⟨x,h,mem_cons_self ..⟩
theorem LW(h:x∈B.pacts.map (·.name))(ho:o∈AX B x):o∈C8 B:=List.mem_flatMap.mpr ⟨x,h,mem_cons_of_mem _ ho⟩
theorem ED(h:x∈AG B.pacts):x∈B.pacts.map (·.name):=(filter_sublist.map _).subset h
theorem PF(nd:(B.pacts.map (·.name)).Nodup):∀x∈AG B.pacts,x∉Bv B.pacts:=λx hx hd=>by
 refine e12 (mem_map.mp hx) λy hy z02=>?_;obtain rfl:=z02;refine e12 (mem_map.mp hd) λz hz e=>Ap (mem_filter.mp hy) λh1 h2=>Ap (mem_filter.mp hz) λh3 h4=>?_;obtain⟨i,hi,ei⟩:=mem_iff_getElem.mp h1;obtain⟨k,hk,ek⟩:=mem_iff_getElem.mp h3;have a:=GA (x:=y) (j:=i) nd (by exact rl (getElem?_eq_getElem hi) (rl ei rfl));have b:=GA (x:=z) (j:=k) nd (by exact rl (getElem?_eq_getElem hk) (rl ek rfl));rw[e,a]at b;have e':y=z:=(Prod.mk.inj (Ak b)).2;have h5:=beq_iff_eq.mp (Bool.and_eq_true _ _▸h2:_/\_).1;rw[e',beq_iff_eq.mp h4]at h5;trivial
theorem I4(nd:(B.pacts.map (·.name)).Nodup):(AG B.pacts).Nodup:=nd.sublist (filter_sublist.map _)
theorem IM(nd:(B.pacts.map (·.name)).Nodup)(h:x∈B.pacts):(∃j,AU B.pacts x.name=some (j,x))/\AX B x.name=x.needs:=by
 obtain⟨i,hi,ei⟩:=mem_iff_getElem.mp h;have a:=GA (x:=x) (j:=i) nd (by exact rl (getElem?_eq_getElem hi) (rl ei rfl));exact⟨⟨i,a⟩,by unfold AX;exact rl a rfl⟩
theorem Iv.pv(R:Rok pur rs)(I:Iv pur rs B)(h:x∈B.pacts):∃j,BY B (.str x.name)=some (j,x):=by
 exact e11 ((IM (I.nd R) h).1) λj e=>⟨j,(if_pos (R.nm _ (I.mem h))).trans e⟩
theorem PI{l:List Str}{f:Str->List Str}(h:∀x∈l,(f x).length<=8):(l.flatMap λk=>k::f k).length<=9*l.length:=by
 induction l with
 |nil=>exact le_refl _
 |cons x l ih=>
  refine rl List.flatMap_cons (rl length_append (rl length_cons (rl length_cons ?_)));have:=ih λy hy=>h y (.tail _ hy);have:=h x (.head _);lia
theorem Iv.nl(R:Rok pur rs)(I:Iv pur rs B)(h:x∈B.pacts.map (·.name)):(AX B x).length<=8:=by
 refine e12 (mem_map.mp h) λy hy z12=>?_;obtain rfl:=z12;exact rl ((IM (I.nd R) hy).2) ((R.ok _ (I.mem hy)).l3)
theorem Iv.dl(R:Rok pur rs)(I:Iv pur rs B):(C8 B).length<=540:=by
 refine le_trans (PI λx hx=>I.nl R hx) ?_;have:=R.len;refine rl (length_map ..) (rl (I.ln ..) ?_);lia
theorem done_st:Bv ps=((Bn ps).filter λe=>e.2==.dn).map (·.1):=by
 unfold Bv Bn;refine rl filter_map (rl map_map ?_);rfl
end
namespace L13
noncomputable def T5:Fn:=⟨2,["_law_k","_law_cell","_law_letters","_law_told","_law_rest","_law_more","_law_j","_law_at"],[
 .assign (.var 2) (.lit (.str (ofString "abcdefghijklmnopqrstuvwxyz"))),
 .assign (.var 3) (.bin .Add (.sub (.var 2) (.bin .Mod (.bin .FloorDiv (.var 0) (.lit (.int 26))) (.lit (.int 26)))) (.sub (.var 2) (.bin .Mod (.var 0) (.lit (.int 26))))),
 .assign (.var 4) (.call "_law_mixed" [(.var 1),(.lit (.int 0))]),
 .ite (.cmp .Eq (.bin .Mod (.var 1) (.lit (.int 2))) (.lit (.int 1))) [.assign (.var 4) (.call "_law_mixed" [(.var 1),(.var 0)]),
  .ite (.ao true [(.cmp .Eq (.bin .Mod (.var 4) (.lit (.int 12))) (.lit (.int 11))),(.cmp .Lt (.var 0) (.lit (.int 26)))]) [.ret (.sub (.var 2) (.var 0))] []] [],
 .assign (.var 5) (.lit (.str (ofString ""))),
 .for (.var 6) (.prim .range [(.bin .Mod (.bin .FloorDiv (.var 4) (.lit (.int 12))) (.lit (.int 11)))]) [.assign (.var 5) (.bin .Add (.var 5) (.sub (.var 2) (.bin .Mod (.bin .FloorDiv (.var 4) (.lit (.int 300))) (.lit (.int 26))))),
  .assign (.var 4) (.bin .FloorDiv (.var 4) (.lit (.int 26)))],
 .ite (.cmp .Eq (.bin .Mod (.var 1) (.lit (.int 2))) (.lit (.int 1))) [.ret (.bin .Add (.var 3) (.var 5))] [],
 .assign (.var 7) (.bin .Mod (.bin .FloorDiv (.var 1) (.lit (.int 2))) (.bin .Add (.prim .len [(.var 5)]) (.lit (.int 1)))),
 .ret (.bin .Add (.bin .Add (.slice (.var 5) none (some (.var 7)) none) (.var 3)) (.slice (.var 5) (some (.var 7)) none none))]⟩
noncomputable def Zr:Fn:=⟨4,["_law_cell","_law_purses","_law_words","_law_own","_law_count","_law_parts","_law_j","_law_total","_law_rest","_law_gains","_law_needs","_law_size","_law_need"],[
 .assign (.var 4) (.prim .len [(.var 1)]),
 .assign (.var 5) (.list []),
 .for (.var 6) (.prim .range [(.prim .min [(.bin .Add (.lit (.int 1)) (.bin .Mod (.var 0) (.lit (.int 3)))),(.var 4)])]) [.expr (.bm (.var 5) .append [(.tuple [(.sub (.var 1) (.bin .Mod (.bin .Add (.bin .FloorDiv (.var 0) (.lit (.int 120))) (.var 6)) (.var 4))),(.bin .Add (.bin .Add (.lit (.int 1)) (.bin .Mod (.bin .FloorDiv (.var 0) (.lit (.int 3))) (.lit (.int 20)))) (.bin .Mult (.lit (.int 3)) (.var 6)))])])],
 .assign (.var 7) (.prim .sum [(.comp (.var 14) 2 true (.var 5) none)]),
 .assign (.var 8) (.bin .FloorDiv (.var 0) (.lit (.int 1440))),
 .assign (.var 9) (.list [(.tuple [(.sub (.var 1) (.bin .Mod (.var 8) (.var 4))),(.var 7)])]),
 .ite (.ao true [(.cmp .Eq (.bin .Mod (.bin .FloorDiv (.var 8) (.lit (.int 12))) (.lit (.int 2))) (.lit (.int 1))),(.cmp .Gt (.var 7) (.lit (.int 1)))]) [.assign (.var 9) (.list [(.tuple [(.sub (.var 1) (.bin .Mod (.var 8) (.var 4))),(.bin .Sub (.var 7) (.lit (.int 1)))]),(.tuple [(.sub (.var 1) (.bin .Mod (.bin .Add (.var 8) (.lit (.int 1))) (.var 4))),(.lit (.int 1))])])] [],
 .assign (.var 8) (.bin .FloorDiv (.var 8) (.lit (.int 24))),
 .assign (.var 10) (.list []),
 .assign (.var 11) (.bin .Mod (.var 8) (.lit (.int 4))),
 .ite (.cmp .Eq (.bin .Mod (.bin .FloorDiv (.var 8) (.lit (.int 4))) (.lit (.int 5))) (.lit (.int 1))) [.assign (.var 11) (.bin .Mod (.bin .FloorDiv (.var 8) (.lit (.int 20))) (.lit (.int 9)))] [],
 .assign (.var 8) (.bin .FloorDiv (.var 8) (.lit (.int 180))),
 .for (.var 6) (.prim .range [(.var 11)]) [.assign (.var 12) (.sub (.var 2) (.bin .Mod (.var 8) (.prim .len [(.var 2)]))),
  .assign (.var 8) (.bin .FloorDiv (.var 8) (.lit (.int 3))),
  .ite (.ao true [(.cmp .NotEq (.var 12) (.var 3)),(.cmp .NotIn (.var 12) (.var 10))]) [.expr (.bm (.var 10) .append [(.var 12)])] []],
 .ret (.tuple [(.var 3),(.var 5),(.var 9),(.var 10),(.bin .Mod (.bin .FloorDiv (.var 8) (.lit (.int 500))) (.lit (.int 21)))])]⟩
noncomputable def ZF:Fn:=⟨4,["_law_book","_law_twin","_law_rows","_law_told","_law_row","_law_many","_law_one"],[
 .assign (.var 4) (.sub (.var 2) (.prim .len [(.var 3)])),
 .assign (.var 5) (.lit (.int 0)),
 .for (.var 6) (.tuple [(.var 0),(.var 1)]) [.try [.expr (.meth (.var 6) "tell" [(.sub (.var 4) (.lit (.int 0))),(.prim .list [(.sub (.var 4) (.lit (.int 1)))]),(.prim .list [(.sub (.var 4) (.lit (.int 2)))]),(.prim .list [(.sub (.var 4) (.lit (.int 3)))]),(.sub (.var 4) (.lit (.int 4)))])] [.mk "BookError" none [.assign (.var 5) (.bin .Add (.var 5) (.lit (.int 1)))]]],
 .ret (.bin .Add (.var 3) (.bin .Mult (.list [(.var 4)]) (.prim .int [(.cmp .Eq (.var 5) (.lit (.int 0)))])))]⟩
noncomputable def ZG:Fn:=⟨3,["_law_book","_law_purse","_law_pact"],[
 .try [.expr (.meth (.var 0) "set_aside" [(.var 1),(.var 2)])] [.mk "BookError" none [.ret (.lit (.bool false))]],
 .ret (.lit (.bool true))]⟩
noncomputable def Z2:Fn:=⟨3,["_law_book","_law_told","_law_cell","_law_k","_law_more","_law_purse","_law_amount"],[
 .for (.var 3) (.prim .range [(.prim .len [(.var 1)])]) [.assign (.var 4) (.call "_law_mixed" [(.var 2),(.var 3)]),
  .for (.tup [5,6]) (.sub (.sub (.var 1) (.var 3)) (.lit (.int 1))) [.ite (.ao false [(.cmp .Gt (.bin .Mod (.var 4) (.lit (.int 4))) (.lit (.int 0))),(.ao true [(.cmp .Eq (.bin .Mod (.bin .FloorDiv (.var 4) (.lit (.int 4))) (.lit (.int 3))) (.lit (.int 0))),(.cmp .Eq (.var 5) (.sub (.sub (.sub (.sub (.var 1) (.var 3)) (.lit (.int 1))) (.lit (.int 0))) (.lit (.int 0))))])]) [.expr (.call "_law_try" [(.var 0),(.var 5),(.sub (.sub (.var 1) (.var 3)) (.lit (.int 0)))])] []]],
 .ite (.ao true [(.cmp .Eq (.bin .Mod (.var 2) (.lit (.int 9))) (.lit (.int 1))),(.cmp .NotEq (.var 1) (.list []))]) [.try [.expr (.meth (.var 0) "call_off" [(.sub (.sub (.var 1) (.bin .Mod (.bin .FloorDiv (.var 2) (.lit (.int 9))) (.prim .len [(.var 1)]))) (.lit (.int 0)))])] [.mk "BookError" none [.ret (.lit (.bool false))]]] [],
 .ite (.cmp .Eq (.bin .Mod (.var 2) (.lit (.int 9))) (.lit (.int 2))) [.expr (.meth (.var 0) "pass_days" [(.lit (.int 1))])] [],
 .ret (.lit (.bool true))]⟩
noncomputable def ZH:Fn:=⟨3,["_law_states","_law_full","_law_needs","_law_steps_here","_law_name","_law_need","_law_turn","_law_fresh","_law_near"],[
 .assign (.var 3) (.dict [] []),
 .for (.var 4) (.var 0) [.for (.var 5) (.bin .Add (.list [(.var 4)]) (.sub (.var 2) (.var 4))) [.ite (.ao true [(.cmp .NotIn (.var 5) (.var 1)),(.ao false [(.cmp .NotIn (.var 5) (.var 0)),(.cmp .NotEq (.sub (.var 0) (.var 5)) (.lit (.str (ofString "done"))))])]) [.assign (.sub (.var 3) (.var 5)) (.lit (.int 1))] []]],
 .for (.var 6) (.prim .range [(.lit (.int 2)),(.bin .Add (.prim .len [(.var 0)]) (.lit (.int 2)))]) [.assign (.var 7) (.list []),
  .for (.var 4) (.var 1) [.assign (.var 8) (.comp (.var 9) 1 false (.sub (.var 2) (.var 4)) (some (.cmp .In (.var 9) (.var 3)))),
   .ite (.ao true [(.cmp .NotIn (.var 4) (.var 3)),(.cmp .NotEq (.var 8) (.list []))]) [.expr (.bm (.var 7) .append [(.var 4)])] []],
  .ite (.cmp .Eq (.var 7) (.list [])) [.ret (.var 3)] [],
  .for (.var 4) (.var 7) [.assign (.sub (.var 3) (.var 4)) (.var 6)]],
 .ret (.var 3)]⟩
noncomputable def ZI:Fn:=⟨3,["_law_name","_law_steps_here","_law_needs","_law_way_here","_law_here"],[
 .assign (.var 3) (.list []),
 .assign (.var 4) (.var 0),
 .while (.ao true [(.cmp .In (.var 4) (.var 1)),(.cmp .Lt (.prim .len [(.var 3)]) (.sub (.var 1) (.var 0)))]) [.expr (.bm (.var 3) .append [(.var 4)]),
  .ite (.cmp .Gt (.sub (.var 1) (.var 4)) (.lit (.int 1))) [.assign (.var 4) (.sub (.comp (.var 5) 1 false (.sub (.var 2) (.var 4)) (some (.ao true [(.cmp .In (.var 5) (.var 1)),(.cmp .Eq (.sub (.var 1) (.var 5)) (.bin .Sub (.sub (.var 1) (.var 4)) (.lit (.int 1))))]))) (.lit (.int 0)))] []],
 .ret (.var 3)]⟩
noncomputable def ZJ:Fn:=⟨3,["_law_why_here","_law_steps_here","_law_needs","_law_name"],[
 .for (.var 3) (.var 0) [.ite (.ao false [(.not (.isinst (.sub (.var 0) (.var 3)) "list")),(.cmp .NotEq (.sub (.var 0) (.var 3)) (.call "_law_way" [(.var 3),(.var 1),(.var 2)]))]) [.ret (.lit (.bool false))] [],
  .expr (.bm (.sub (.var 0) (.var 3)) .append [(.lit (.str (ofString "more")))])],
 .ret (.lit (.bool true))]⟩
noncomputable def ZK:Fn:=⟨3,["_law_book","_law_told","_law_turn","_law_full","_law_states","_law_why_here","_law_many","_law_way_here","_law_at","_law_row"],[
 .assign (.rtup [3,4,5]) (.tuple [(.list []),(.dict [] []),(.dict [] [])]),
 .assign (.var 6) (.sub (.list [(.lit (.int 16)),(.lit (.int 3))]) (.prim .int [(.cmp .Gt (.prim .len [(.var 1)]) (.lit (.int 10)))])),
 .for (.var 7) (.sub (.list [(.list [(.lit (.int 0)),(.lit (.int 1)),(.lit (.int 2))]),(.list [(.lit (.int 1)),(.lit (.int 2)),(.lit (.int 0))]),(.list [(.lit (.int 2)),(.lit (.int 0)),(.lit (.int 1))]),(.list [(.lit (.int 2)),(.lit (.int 1)),(.lit (.int 0))]),(.list [(.lit (.int 0)),(.lit (.int 2)),(.lit (.int 1))]),(.list [(.lit (.int 1)),(.lit (.int 0)),(.lit (.int 2))])]) (.bin .Mod (.var 2) (.lit (.int 6)))) [.fore 8 9 (.var 1) [.ite (.ao true [(.cmp .Eq (.var 7) (.lit (.int 0))),(.meth (.var 0) "full" [(.sub (.var 9) (.lit (.int 0)))])]) [.expr (.bm (.var 3) .append [(.sub (.var 9) (.lit (.int 0)))])] [.ite (.cmp .Eq (.var 7) (.lit (.int 1))) [.assign (.sub (.var 4) (.sub (.var 9) (.lit (.int 0)))) (.meth (.var 0) "state_of" [(.sub (.var 9) (.lit (.int 0)))])] [.ite (.ao true [(.cmp .Eq (.var 7) (.lit (.int 2))),(.cmp .Lt (.bin .Mult (.prim .len [(.var 5)]) (.prim .len [(.var 1)])) (.bin .Mult (.var 6) (.bin .Add (.var 8) (.lit (.int 1)))))]) [.assign (.sub (.var 5) (.sub (.var 9) (.lit (.int 0)))) (.meth (.var 0) "why_not" [(.sub (.var 9) (.lit (.int 0)))])] []]]]],
 .ret (.tuple [(.var 3),(.var 4),(.var 5)])]⟩
noncomputable def ZL:Fn:=⟨6,["_law_book","_law_states","_law_full","_law_found","_law_needs","_law_turn","_law_later","_law_steps_here","_law_names","_law_at","_law_why_here"],[
 .assign (.var 6) (.prim .dict [(.comp (.tuple [(.var 11),(.sub (.list [(.sub (.var 1) (.var 11)),(.lit (.str (ofString "done")))]) (.prim .int [(.cmp .In (.var 11) (.var 3))]))]) 1 false (.var 1) none)]),
 .assign (.var 7) (.call "_law_steps" [(.var 6),(.comp (.var 11) 1 false (.var 2) (some (.cmp .NotIn (.var 11) (.var 3)))),(.var 4)]),
 .assign (.var 8) (.prim .list [(.var 1)]),
 .assign (.var 9) (.bin .Mod (.var 5) (.prim .max [(.lit (.int 1)),(.prim .len [(.var 8)])])),
 .assign (.var 10) (.prim .dict [(.comp (.tuple [(.var 11),(.meth (.var 0) "why_not" [(.var 11)])]) 1 false (.slice (.bin .Add (.slice (.var 8) (some (.var 9)) none none) (.slice (.var 8) none (some (.var 9)) none)) none (some (.lit (.int 5))) none) none)]),
 .ret (.call "_law_why" [(.var 10),(.var 7),(.var 4)])]⟩
noncomputable def ZD:Fn:=⟨5,["_law_book","_law_twin","_law_told","_law_turn","_law_held","_law_full","_law_states","_law_why_here","_law_needs","_law_steps_here","_law_found","_law_name","_law_need","_law_lost","_law_again"],[
 .assign (.tup [5,6,7]) (.call "_law_asked" [(.var 0),(.var 2),(.var 3)]),
 .assign (.var 8) (.prim .dict [(.comp (.tuple [(.sub (.var 15) (.lit (.int 0))),(.sub (.var 15) (.lit (.int 3)))]) 1 false (.var 2) none)]),
 .assign (.var 9) (.call "_law_steps" [(.var 6),(.var 5),(.var 8)]),
 .ite (.not (.call "_law_why" [(.var 7),(.var 9),(.var 8)])) [.ret (.lit (.bool false))] [],
 .expr (.bm (.var 4) .extend [(.comp (.tuple [(.sub (.var 7) (.var 15)),(.prim .list [(.sub (.var 7) (.var 15))])]) 1 false (.var 7) none)]),
 .assign (.var 10) (.meth (.var 0) "settle" []),
 .ite (.ao false [(.not (.isinst (.var 10) "list")),(.cmp .NotEq (.var 10) (.comp (.var 15) 1 false (.var 5) (some (.cmp .NotIn (.var 15) (.var 9))))),(.cmp .NotEq (.meth (.var 1) "settle" []) (.var 10))]) [.ret (.lit (.bool false))] [],
 .ite (.ao true [(.cmp .Eq (.bin .Mod (.bin .FloorDiv (.var 3) (.lit (.int 6))) (.lit (.int 2))) (.lit (.int 1))),(.not (.call "_law_why_behind" [(.var 0),(.var 6),(.var 5),(.var 10),(.var 8),(.bin .FloorDiv (.var 3) (.lit (.int 12)))]))]) [.ret (.lit (.bool false))] [],
 .for (.var 11) (.var 10) [.ite (.cmp .NotEq (.sub (.var 6) (.var 11)) (.lit (.str (ofString "open")))) [.ret (.lit (.bool false))] [],
  .for (.var 12) (.sub (.var 8) (.var 11)) [.ite (.ao true [(.cmp .NotIn (.var 12) (.var 10)),(.ao false [(.cmp .NotIn (.var 12) (.var 6)),(.cmp .NotEq (.sub (.var 6) (.var 12)) (.lit (.str (ofString "done"))))])]) [.ret (.lit (.bool false))] []]],
 .for (.var 11) (.bin .Mult (.prim .list [(.var 6)]) (.prim .int [(.cmp .Gt (.bin .Mod (.bin .FloorDiv (.var 3) (.lit (.int 60))) (.lit (.int 3))) (.lit (.int 0)))])) [.ite (.cmp .NotEq (.meth (.var 0) "state_of" [(.var 11)]) (.sub (.list [(.sub (.var 6) (.var 11)),(.lit (.str (ofString "done")))]) (.prim .int [(.cmp .In (.var 11) (.var 10))]))) [.ret (.lit (.bool false))] [],
  .assign (.var 13) (.comp (.var 15) 1 false (.sub (.var 8) (.var 11)) (some (.ao true [(.cmp .In (.var 15) (.var 6)),(.cmp .Eq (.sub (.var 6) (.var 15)) (.lit (.str (ofString "fallen"))))]))),
  .ite (.ao true [(.cmp .Eq (.sub (.var 6) (.var 11)) (.lit (.str (ofString "open")))),(.cmp .NotEq (.var 13) (.list []))]) [.ret (.lit (.bool false))] []],
 .expr (.bm (.var 10) .append [(.lit (.str (ofString "more")))]),
 .expr (.bm (.var 4) .append [(.tuple [(.var 10),(.prim .list [(.var 10)])])]),
 .assign (.var 14) (.meth (.var 0) "settle" []),
 .expr (.bm (.var 4) .append [(.tuple [(.var 14),(.list [])])]),
 .ret (.ao true [(.isinst (.var 14) "list"),(.cmp .Eq (.var 14) (.list []))])]⟩
noncomputable def ZM:Fn:=⟨2,["_law_book","_law_name"],[
 .try [.expr (.meth (.var 0) "why_not" [(.var 1)])] [.mk "NoPact" none [.ret (.lit (.bool true))]],
 .ret (.lit (.bool false))]⟩
noncomputable def Zs:Fn:=⟨1,["_law_script","_law_book","_law_twin","_law_count","_law_many","_law_names","_law_purses","_law_words","_law_one","_law_purse","_law_rows","_law_told","_law_held","_law_k"],[
 .assign (.tup [1,2]) (.tuple [(.new "Book" []),(.new "Book" [])]),
 .assign (.var 3) (.bin .Add (.lit (.int 2)) (.bin .Mod (.call "_law_cell_at" [(.var 0),(.lit (.int 0))]) (.lit (.int 4)))),
 .ite (.cmp .Eq (.bin .Mod (.bin .FloorDiv (.call "_law_cell_at" [(.var 0),(.lit (.int 0))]) (.lit (.int 4))) (.lit (.int 6))) (.lit (.int 1))) [.assign (.var 3) (.bin .Add (.lit (.int 10)) (.bin .Mod (.bin .FloorDiv (.call "_law_cell_at" [(.var 0),(.lit (.int 0))]) (.lit (.int 24))) (.lit (.int 3))))] [],
 .assign (.var 4) (.bin .Add (.lit (.int 2)) (.bin .Mod (.call "_law_cell_at" [(.var 0),(.lit (.int 1))]) (.lit (.int 5)))),
 .ite (.cmp .Eq (.bin .Mod (.bin .FloorDiv (.call "_law_cell_at" [(.var 0),(.lit (.int 1))]) (.lit (.int 5))) (.lit (.int 5))) (.lit (.int 1))) [.assign (.var 4) (.bin .Add (.lit (.int 8)) (.bin .Mod (.bin .FloorDiv (.call "_law_cell_at" [(.var 0),(.lit (.int 1))]) (.lit (.int 25))) (.lit (.int 3))))] [],
 .ite (.cmp .Eq (.bin .Mod (.bin .FloorDiv (.call "_law_cell_at" [(.var 0),(.lit (.int 1))]) (.lit (.int 5))) (.lit (.int 10))) (.lit (.int 2))) [.assign (.var 4) (.bin .Add (.lit (.int 16)) (.bin .Mod (.bin .FloorDiv (.call "_law_cell_at" [(.var 0),(.lit (.int 1))]) (.lit (.int 50))) (.lit (.int 15))))] [],
 .assign (.var 5) (.comp (.call "_law_word" [(.var 14),(.call "_law_cell_at" [(.var 0),(.lit (.int 2))])]) 1 false (.prim .range [(.bin .Add (.var 3) (.var 4))]) none),
 .assign (.var 6) (.slice (.var 5) none (some (.var 3)) none),
 .assign (.var 7) (.bin .Add (.slice (.var 5) (some (.var 3)) none none) (.list [(.lit (.str (ofString "never"))),(.lit (.str (ofString "yet")))])),
 .for (.var 8) (.tuple [(.var 1),(.var 2)]) [.for (.var 9) (.var 6) [.expr (.meth (.var 8) "open_purse" [(.var 9)]),
   .expr (.meth (.var 8) "put" [(.var 9),(.sub (.list [(.lit (.int 30)),(.lit (.int 5000))]) (.bin .Mod (.call "_law_cell_at" [(.var 0),(.lit (.int 3))]) (.lit (.int 2))))])]],
 .assign (.var 10) (.comp (.call "_law_pact_by" [(.call "_law_mixed" [(.call "_law_cell_at" [(.var 0),(.bin .Add (.lit (.int 8)) (.var 14))]),(.var 14)]),(.var 6),(.var 7),(.sub (.var 7) (.var 14))]) 1 false (.prim .range [(.var 4)]) none),
 .assign (.var 11) (.list []),
 .assign (.var 12) (.list []),
 .for (.var 13) (.prim .range [(.bin .Sub (.var 4) (.bin .Mod (.bin .FloorDiv (.call "_law_cell_at" [(.var 0),(.lit (.int 3))]) (.lit (.int 2))) (.lit (.int 3))))]) [.assign (.var 11) (.call "_law_tell" [(.var 1),(.var 2),(.var 10),(.var 11)])],
 .for (.var 13) (.prim .range [(.sub (.list [(.lit (.int 4)),(.lit (.int 2))]) (.prim .int [(.cmp .Gt (.var 4) (.lit (.int 10)))]))]) [.expr (.call "_law_round" [(.var 1),(.var 11),(.call "_law_mixed" [(.call "_law_cell_at" [(.var 0),(.bin .Add (.lit (.int 4)) (.var 13))]),(.var 13)])]),
  .expr (.call "_law_round" [(.var 2),(.var 11),(.call "_law_mixed" [(.call "_law_cell_at" [(.var 0),(.bin .Add (.lit (.int 4)) (.var 13))]),(.var 13)])]),
  .ite (.not (.call "_law_settled" [(.var 1),(.var 2),(.var 11),(.bin .FloorDiv (.call "_law_mixed" [(.call "_law_cell_at" [(.var 0),(.bin .Add (.lit (.int 4)) (.var 13))]),(.bin .Add (.var 13) (.lit (.int 5)))]) (.lit (.int 3))),(.var 12)])) [.ret (.lit (.bool false))] [],
  .ite (.cmp .Lt (.prim .len [(.var 11)]) (.var 4)) [.ite (.not (.call "_law_refused" [(.var 1),(.sub (.sub (.var 10) (.prim .len [(.var 11)])) (.lit (.int 0)))])) [.ret (.lit (.bool false))] [],
   .assign (.var 11) (.call "_law_tell" [(.var 1),(.var 2),(.var 10),(.var 11)])] []],
 .ite (.cmp .NotEq (.comp (.meth (.var 2) "state_of" [(.sub (.var 14) (.lit (.int 0)))]) 1 false (.var 11) none) (.comp (.meth (.var 1) "state_of" [(.sub (.var 14) (.lit (.int 0)))]) 1 false (.var 11) none)) [.ret (.lit (.bool false))] [],
 .ret (.ao true [(.call "_law_refused" [(.var 1),(.lit (.str (ofString "never")))]),(.cmp .Eq (.comp (.var 14) 1 false (.var 12) (some (.cmp .NotEq (.sub (.var 14) (.lit (.int 0))) (.sub (.var 14) (.lit (.int 1)))))) (.list []))])]⟩
noncomputable def P:Pg where
 fns:=[("are_met",BK.Zc),("table_of",BK.Zd),("greatest",BK.Zg),("chain",BK.Zk),("is_whole",BK.Z3),("is_name",BK.Z6),("name_of",BK.Z7),("amount_of",BK.Z8),("_law_cell_at",BK.Z1),("_law_mixed",BK.Zj),("_law_word",T5),("_law_pact_by",Zr),("_law_tell",ZF),("_law_try",ZG),("_law_round",Z2),("_law_steps",ZH),("_law_way",ZI),("_law_why",ZJ),("_law_asked",ZK),("_law_why_behind",ZL),("_law_settled",ZD),("_law_refused",ZM),("law",Zs),("Pact.__init__",BK.Zl),("Pact.part_of",BK.Zm),("Pact.is_full",BK.Za),("Book.__init__",BK.Z9),("Book.need_purse",BK.Zt),("Book.need_pact",BK.ZA),("Book.need_open",BK.ZB),("Book.open_purse",BK.ZC),("Book.put",BK.Zn),("Book.pairs_of",BK.Zo),("Book.needs_of",BK.Zp),("Book.tell",BK.Zu),("Book.set_aside",BK.Zv),("Book.given_back",BK.Zb),("Book.fell",BK.Ze),("Book.first_dragged",BK.Zf),("Book.dragged",BK.Zh),("Book.call_off",BK.Zw),("Book.pass_days",BK.Z0),("Book.standing",BK.Zi),("Book.settle",BK.Zx),("Book.why_not",BK.Zq),("Book.told",BK.ZE),("Book.state_of",BK.Zy),("Book.full",BK.Zz)]
 gfns:=["_wall","are_met","table_of","greatest","chain","is_whole","is_name","name_of","amount_of","_law_cell_at","_law_mixed","_law_word","_law_pact_by","_law_tell","_law_try","_law_round","_law_steps","_law_way","_law_why","_law_asked","_law_why_behind","_law_settled","_law_refused","law"]
 consts:=[("LETTERS",(.str (ofString "abcdefghijklmnopqrstuvwxyz"))),("MOST_SIGNS",(.int 12)),("MOST_AMOUNT",(.int 1000000000000000000000000000000)),("MOST",(.int 8))]
 excs:=[("BookError",["BookError","ValueError"]),("NoName",["NoName","BookError","ValueError"]),("NoAmount",["NoAmount","BookError","ValueError"]),("Taken",["Taken","BookError","ValueError"]),("NoPurse",["NoPurse","BookError","ValueError"]),("TooLittle",["TooLittle","BookError","ValueError"]),("NoRow",["NoRow","BookError","ValueError"]),("Twice",["Twice","BookError","ValueError"]),("Uneven",["Uneven","BookError","ValueError"]),("Fallen",["Fallen","BookError","ValueError"]),("NoDay",["NoDay","BookError","ValueError"]),("NoPact",["NoPact","BookError","ValueError"]),("NotOpen",["NotOpen","BookError","ValueError"]),("NoPart",["NoPart","BookError","ValueError"]),("Already",["Already","BookError","ValueError"])]
 classes:=["Pact","Book"]
 meths:=[("Pact","__init__"),("Pact","part_of"),("Pact","is_full"),("Book","__init__"),("Book","need_purse"),("Book","need_pact"),("Book","need_open"),("Book","open_purse"),("Book","put"),("Book","take"),("Book","pairs_of"),("Book","needs_of"),("Book","tell"),("Book","set_aside"),("Book","given_back"),("Book","draw_back"),("Book","fell"),("Book","first_dragged"),("Book","dragged"),("Book","call_off"),("Book","pass_days"),("Book","standing"),("Book","settle"),("Book","why_not"),("Book","purses"),("Book","told"),("Book","free_of"),("Book","aside_of"),("Book","state_of"),("Book","inside_of"),("Book","full")]
 attrs:=[("Book","aside"),("Book","day"),("Book","free"),("Book","pacts"),("Pact","gains"),("Pact","inside"),("Pact","last"),("Pact","name"),("Pact","needs"),("Pact","parts"),("Pact","state")]
 prims:=["bool","dict","enumerate","int","isinstance","len","list","max","min","range","str","sum"]
end L13
section
open L13
theorem U13:Bt L13.P:=⟨⟨rfl,rfl,rfl,rfl,rfl,rfl,rfl,rfl,rfl,rfl,rfl,rfl⟩,rfl,rfl⟩
noncomputable def B8(l:List (Str×Sta)):List (Str×AV):=l.map λe=>(e.1,.str e.2.str)
noncomputable def C_(l:List (Str×Sta)):List Str:=(l.filter λe=>e.2==.dn).map (·.1)
noncomputable def Ew(l:List (Str×Sta))(f:Str->List Str):List Str:=(l.map (·.1)).flatMap λk=>k::f k
section
variable{l:List (Str×Sta)}
theorem Gi:Bb (B8 l) x=(lk l x).map λs=>.str s.str:=by
 unfold Bb lk B8;refine rl (List.find?_map ..) (rl (Option.map_map ..) (rl (Option.map_map ..) ?_));rfl
theorem Qj(h:lk l x=some s):(x,s)∈l:=by
 unfold lk at h;refine e12 (map_eq_some_iff.mp h) λe h1 h2=>?_;have h3:=find?_some h1;have h3:e.1=x:=of_decide_eq_true h3;have:=List.mem_of_find?_eq_some h1;exact rl h3.symm (rl h2.symm this)
theorem NA(nd:(l.map (·.1)).Nodup)(h:(x,s)∈l):lk l x=some s:=by
 induction l with
 |nil=>trivial
 |cons e l ih=>
  refine Ap (nodup_cons.mp nd) λn1 n2=>?_;unfold lk;refine rl (find?_cons) ?_;rcases mem_cons.mp h with h|h
  ·refine rl h.symm (rl (show decide ((x,s).1=x)=true from decide_eq_true rfl) ?_);rfl
  ·exact rl (show decide (e.1=x)=false from decide_eq_false λz=>n1 (mem_map.mpr ⟨_,h,z.symm⟩))<|ih n2 h
theorem J_(nd:(l.map (·.1)).Nodup):x∈C_ l↔lk l x=some .dn:=by
 unfold C_;constructor
 ·intro h;refine e12 (mem_map.mp h) λe he z02=>?_;obtain rfl:=z02;refine Ap (mem_filter.mp he) λh1 h2=>?_;have:=beq_iff_eq.mp h2;exact NA nd (rl this.symm h1)
 ·exact λh=>mem_map.mpr ⟨_,mem_filter.mpr ⟨Qj h,rfl⟩,rfl⟩
end
theorem Kb.ext0(k:Kb b H H')(e:Ext H0 H)(h:H0 b=none):Ext H0 H':=λa x hx=>k a x (Cd hx h) (e a x hx)
theorem DistAt.kb(h:DistAt H z d N)(k:Kb b H H')(hz:z≠b):DistAt H' z d N:=let ⟨ep,es,h1,h2⟩:=h;⟨ep,es,k _ _ hz h1,h2⟩
theorem DistAt.le(h:DistAt H z d N)(k:N<=M):DistAt H z d M:=let ⟨ep,es,h1,h2,h3⟩:=h;⟨ep,es,h1,le_trans h2 k,h3⟩
theorem Xw{QN:VV->Ac->Prop}{stp:AV->(VV->Ac->Prop)->VV->Ac->Prop}{z:Addr}{V:VV}{H:Ac}{m:Nat}(hz:H z=some (.range 2 ((m:Int)+2)))(J:Nat->VV->Ac->Prop)(h0:J 0 V H)
  (hs:∀I:Nat->VV->Ac->Prop,(∀k V' H',J k V' H'->I k V' H')->∀k V' H',J k V' H'->H' z=some (.range 2 ((m:Int)+2))/\(k=m->QN V' H')/\(k<m->stp (.int ((k+2:Nat):Int)) (I (k+1)) V' H')):Bq QN stp (.ref z) V H:=by
 refine CD (xs:=(List.range ((m:Int)+2 - 2).toNat).map λ(k:Nat)=>AV.int (2+k)) (I0 hz) J h0 λI hI k V' H' hJ=>Br (hs I hI k V' H' hJ) λh1 h2 h3=>?_;have hl:((List.range ((m:Int)+2 - 2).toNat).map λ(k:Nat)=>AV.int (2+k)).length=m:=by refine rl (length_map ..) (rl (length_range ..) ?_);lia
 refine⟨h1.trans hz.symm,λe=>h2 (e.trans hl),λx hx=>?_⟩;have hlt:=(AJ hx).1;rw[getElem?_map,map_eq_some_iff]at hx;refine e12 hx λj hj z12=>?_;obtain rfl:=z12;refine e11 (AJ hj) λhj1 hj2=>?_;rw[getElem_range]at hj2;exact rl hj2.symm (rl (show(2:Int)+(k:Int)=((k+2:Nat):Int) by lia) (h3 (Nat.lt_of_lt_of_eq hlt hl)))
theorem Fk(hz:B6 H (.ref z)=some (Ae ws))(J:Nat->VV->Ac->Prop)(h0:J 0 V H)
  (hs:∀I:Nat->VV->Ac->Prop,(∀k V' H',J k V' H'->I k V' H')->∀k V' H',J k V' H'->H' z=H z/\(k=ws.length->QN V' H')/\∀s,ws[k]? =some s->stp (.str s) (I (k+1)) V' H'):Bq QN stp (.ref z) V H:=
 CD hz J h0 λI hI k V' H' hJ=>
  let ⟨h1,h2,h3⟩:=hs I hI k V' H' hJ
  ⟨h1,λe=>h2 (e.trans AO),λx hx=>by refine e12 (Ff hx) λs z21 hs=>?_;obtain rfl:=z21;exact h3 s hs⟩
theorem JS(h:H a=some (.dict ep es)):B6 H (.ref a)=some (Ae (es.map (·.1))):=by exact rl (show B6 H (.ref a)=some (es.map λe=>AV.str e.1) from show B6 (λ_=>H a) (.ref a)=_ from h▸rfl) (congrArg some map_map.symm)
theorem Wh(ws:List Str):(Ae ws).filterMap (λv=>match v with| .str s=>if p s then some v else none|_=>none)=Ae (ws.filter p):=by
 induction ws with
 |nil=>rfl
 |cons s ws ih=>
  refine rl filterMap_cons (rl filter_cons ?_);dsimp only;cases hp:p s with
  |false=>exact rl (if_neg Bool.false_ne_true) (rl (if_neg Bool.false_ne_true) ih)
  |true=>exact rl (if_pos rfl) (rl (if_pos rfl) (congrArg _ ih))
theorem Ij(hmd:g.md=true)(hm:V.length=m)(p:Str->Bool)(hl:ws.length<=1000)(he:∀Q':AV->Ac->Prop,Q' (.ref a) H->Aj g it V Q' E H)(ha:B6 H (.ref a)=some (Ae ws))
  (hc:∀s∈ws,∀H',Ext H H'->∀K:AV->Ac->Prop,(∀H'',Ext H' H''->K (.bool (p s)) H'')->Aj g cd (V++[some (.str s)]) K (λ_ _=>False) H')(q:∀z H',Ext H H'->H z=none->H' z=some (.list (Ae (ws.filter p)))->Q (.ref z) H'):Aj g (.comp (.var m) 1 false it (some cd)) V Q E H:=by
 refine rl Bl ⟨hmd,he _ (Ib (xs:=Ae ws) ha (rl AO (le_trans hl (by decide))) (λv=>match v with| .str s=>if p s then some v else none|_=>none) (λy hy H' hE nx hnx=>?_) λz H' hE hz=>?_)⟩
 ·refine e12 (mem_map.mp hy) λs hs z32=>?_;obtain rfl:=z32;refine rl (if_neg Bool.false_ne_true) (rl Dg (hc s hs H' hE _ λH'' E''=>?_));have:=hnx H'' E'';dsimp only[Az];dsimp only at this;cases hp:p s with
  |false=>rw[hp]at this;exact this
  |true=>
   rw[hp]at this;refine rl (if_pos rfl) (rl Ad (rl hm.symm (rl (getElem?_append_right (le_refl _)) (rl (sub_self _) ?_))));exact this
 ·exact q z _ (hE.new hz) (hE.none hz)<|rl Ah (congrArg (λl=>some (AObj.list l)) (Wh ws))
end
section
open L13
noncomputable def BI(full done A:List Str)(x:Str):Option Nat:=if x∈A/\x∉full/\x∉done then some 1 else none
section
variable{g:Gx}{H H0:Ac}{QN:VV->Ac->Prop}{QR:AV->Ac->Prop}{EE:String->VV->Ac->Prop}{v0 v1 v2 v4 v5 v6 v8:Option AV}{full A:List Str}{l:List (Str×Sta)}{f:Str->List Str}{d:Str->Option Nat}{st fu nd z fr:Addr}{ep N:Nat}
theorem VP{done:List Str}{s:Str}(h:s∈full\/s∈done):BI full done (A++[s])=BI full done A:=funext λx=>by
 unfold BI;by_cases e:x=s
 ·exact rl (if_neg (λw=>h.elim (e▸w.2.1) (e▸w.2.2))) (rl (if_neg (λw=>h.elim (e▸w.2.1) (e▸w.2.2))) rfl)
 ·have:x∈A++[s]↔x∈A:=by rw[mem_append,mem_singleton];exact⟨λw=>w.resolve_right e,.inl⟩
  simp only[this]
theorem Xd{done:List Str}{s:Str}(h1:s∉full)(h2:s∉done):BI full done (A++[s])=λx=>if x=s then some 1 else BI full done A x:=funext λx=>by
 unfold BI;by_cases e:x=s
 ·exact rl (if_pos e) (rl (if_pos ⟨mem_append_right _ (by refine rl e ?_;exact .head _),e▸h1,e▸h2⟩) rfl)
 ·have:x∈A++[s]↔x∈A:=by rw[mem_append,mem_singleton];exact⟨λw=>w.resolve_right e,.inl⟩
  refine rl (if_neg e) ?_;simp only[this]
theorem Po{e1 e2:X}{V:VV}{K:VV->Ac->Prop}{E:String->Ac->Prop}{s:Str}{v:Nat}(h1:∀Q:AV->Ac->Prop,Q (.ref z) H->Aj g e1 V Q E H)(h2:∀Q:AV->Ac->Prop,Q (.str s) H->Aj g e2 V Q E H)(D:DistAt H z d N)(hN:N<=100000)
  (q:∀H',Kb z H H'->DistAt H' z (λx=>if x=s then some v else d x) (N+1)->K V H'):DT g (.sub e1 e2) (.int ((v:Nat):Int)) V K E H:=by
 refine e23 D λep es a1 a2 a3=>rl AC<|h1 _ (h2 _ ?_);dsimp only;exact rl a1 ⟨le_trans a2 (le_trans hN (by decide)),λep'=>q _ .up (DistAt.put a2 a3)⟩
theorem XX{s:Str}{K:VV->Ac->Prop}(nk:(l.map (·.1)).Nodup)(hs:H st=some (.dict ep (B8 l)))(hf:H fu=some (.list (Ae full)))(D:DistAt H z (BI full (C_ l) A) A.length)(hA:A.length<=1000)
  (q:∀H',Kb z H H'->DistAt H' z (BI full (C_ l) (A++[s])) (A++[s]).length->K [some (.ref st),some (.ref fu),v2,some (.ref z),v4,some (.str s),v6,v1,v8] H') :
  A4 g (.ite (.ao true [(.cmp .NotIn (.var 5) (.var 1)),(.ao false [(.cmp .NotIn (.var 5) (.var 0)),(.cmp .NotEq (.sub (.var 0) (.var 5)) (.lit (.str (ofString "done"))))])]) [.assign (.sub (.var 3) (.var 5)) (.lit (.int 1))] []) K QR EE [some (.ref st),some (.ref fu),v2,some (.ref z),v4,some (.str s),v6,v1,v8] H:=by
 have le:(A++[s]).length=A.length+1:=length_append;have skip:(s∈full\/s∈C_ l)->K [some (.ref st),some (.ref fu),v2,some (.ref z),v4,some (.str s),v6,v1,v8] H:=λh=>q H .refl (by refine rl (VP h) (rl le ?_);exact D.le (le_succ _));have go:s∉full->s∉C_ l->Af g [.assign (.sub (.var 3) (.var 5)) (.lit (.int 1))] K QR EE [some (.ref st),some (.ref fu),v2,some (.ref z),v4,some (.str s),v6,v1,v8] H:=λh1 h2=>by
  exact Ab λK' nx=>Po (v:=1) (λQ h=>h) (λQ h=>h) D (le_trans hA (by decide)) λH' k' D'=>nx _ _<|q H' k' (by refine rl (Xd h1 h2) (rl le ?_);exact D')
 dsimp only[A7];dsimp only[Am,AQ,AT,Ar,Aq,Au,Ad,getElem?_cons_succ,Aw,C1];refine GF (no:=true) hf ?_;dsimp only[Az];by_cases h1:s∈full
 ·refine rl (decide_eq_true h1) ?_;exact skip (.inl h1)
 ·refine rl (decide_eq_false h1)<|rl (if_pos rfl)<|Ik (no:=true) hs<|rl Gi (rl isSome_map ?_);dsimp only[Az];cases e:lk l s with
  |none=>exact go h1 (λh=>by rw[(J_ nk).mp h]at e;trivial)
  |some t=>
   refine rl CU (rl hs ⟨.str t.str,by refine rl Gi (rl e ?_);rfl,?_⟩);dsimp only[Dd,Az,bne];refine rl My ?_;by_cases h2:t = .dn
   ·rw[h2];exact skip (.inr ((J_ nk).mpr (by rw[e,h2])))
   ·exact rl (show(t==Sta.dn)=false from beq_false_of_ne h2)<|go h1 λh=>h2 (by rw[(J_ nk).mp h]at e;exact(Ak e).symm)
inductive S1(H:Ac)(st fu nd z:Addr)(full ks:List Str)(l:List (Str×Sta))(f:Str->List Str)(k:Nat)(V':VV)(H':Ac):Prop
 |mk (p4 p5:Option AV) (hV:V'=[some (.ref st),some (.ref fu),some (.ref nd),some (.ref z),p4,p5,none,none,none]) (hE:Ext H H') (D:DistAt H' z (BI full (C_ l) ((ks.take k).flatMap λk=>k::f k)) ((ks.take k).flatMap λk=>k::f k).length)
inductive S2(H:Ac)(st fu nd z y:Addr)(full A ws:List Str)(l:List (Str×Sta))(s:Str)(j:Nat)(V':VV)(H':Ac):Prop
 |mk (p5:Option AV) (hV:V'=[some (.ref st),some (.ref fu),some (.ref nd),some (.ref z),some (.str s),p5,none,none,none]) (hE:Ext H H') (hy:H' y=some (.list (Ae ws))) (D:DistAt H' z (BI full (C_ l) (A++ws.take j)) (A++ws.take j).length)
theorem UR{ks:List Str}{k:Nat}{s:Str}(h:ks[k]? =some s):((ks.take (k+1)).flatMap λk=>k::f k)=((ks.take k).flatMap λk=>k::f k)++s::f s:=by
 exact rl (B0 h) (rl List.flatMap_append (congrArg _ (append_nil _)))
theorem Qo{ks:List Str}{k:Nat}(h8:∀x∈ks,(f x).length<=8)(hl:ks.length<=60):((ks.take k).flatMap λk=>k::f k).length<=540:=by
 refine le_trans (PI λx hx=>h8 x (mem_of_mem_take hx)) ?_;refine rl length_take ?_;exact Lf hl
theorem XW(hmd:g.md=true)(nk:(l.map (·.1)).Nodup)(hs:H st=some (.dict ep (B8 l)))(hf:H fu=some (.list (Ae full)))(hn:NeedsAt H nd f (l.map (·.1)))(h8:∀x∈l.map (·.1),(f x).length<=8)(hl:l.length<=60)(hz:H z=none)
  (q:∀H' p4 p5,Ext H H'->DistAt H' z (BI full (C_ l) (Ew l f)) 540->QN [some (.ref st),some (.ref fu),some (.ref nd),some (.ref z),p4,p5,none,none,none] H') :
  A4 g (.for (.var 4) (.var 0) [.for (.var 5) (.bin .Add (.list [(.var 4)]) (.sub (.var 2) (.var 4))) [.ite (.ao true [(.cmp .NotIn (.var 5) (.var 1)),(.ao false [(.cmp .NotIn (.var 5) (.var 0)),(.cmp .NotEq (.sub (.var 0) (.var 5)) (.lit (.str (ofString "done"))))])]) [.assign (.sub (.var 3) (.var 5)) (.lit (.int 1))] []]]) QN QR EE [some (.ref st),some (.ref fu),some (.ref nd),some (.ref z),none,none,none,none,none] (up H z (.dict 0 [])):=by
 have E0:=Ext.refl.new (o:=.dict 0 []) hz;have D0:DistAt (up H z (.dict 0 [])) z (BI full (C_ l) []) 0:=⟨0,[],Ah,le_refl _,λx=>by unfold BI;refine rl (if_neg (λw=>by cases w.1)) ?_;rfl⟩
 have hk:(B8 l).map (·.1)=l.map (·.1):=by unfold B8;refine rl map_map ?_;rfl
 generalize up H z (.dict 0 [])=H1 at E0 D0;have hi:=JS (E0 _ _ hs);rw[hk]at hi;have hkl:(l.map (·.1)).length<=60:=by refine rl (length_map ..) ?_;exact hl
 unfold Ew at q;generalize l.map (·.1)=ks at hn h8 hi hkl q;refine⟨hmd,?_⟩;dsimp only[Ad,Aw,B_];refine Fk hi (S1 H st fu nd z full ks l f) ⟨_,_,rfl,E0,D0⟩ ?_;rintro I hI k V' H' ⟨p4,p5,rfl,hE,D⟩;refine⟨(hE _ _ hs).trans (E0 _ _ hs).symm,λhk=>?_,λs hs'=>?_⟩
 ·rw[hk,take_length]at D;refine q H' _ _ hE (D.le ?_);have:=Qo (f:=f) (k:=ks.length) h8 hkl;rw[take_length]at this;exact this
 ·have hsm:=mem_of_getElem? hs';have fl:=UR (f:=f) hs';have hAl:=Qo (f:=f) (k:=k+1) h8 hkl;have hI':=λV' H'=>hI (k+1) V' H';clear hI;rw[fl]at hAl;generalize((ks.take k).flatMap λk=>k::f k)=A at D fl hAl;refine⟨show 4<9 by decide,?_⟩;refine Ab λK nx=>⟨hmd,?_⟩
  dsimp only[Av,set_cons_succ,set_cons_zero,B_,Au,Ad,getElem?_cons_succ,Aw,AB,Al,An];intro y1 hy1;have E1:=Ext.refl.new (o:=.list [.str s]) hy1;refine Lq (hn.ext hE) E1 hsm λr hr hr8=>GM (xs:=[.str s]) (ys:=Ae (f s)) Ah (E1 _ _ hr) (by refine rl AO ?_;have:=h8 s hsm;show 1+_<=1000;lia) λy hy=>?_;have E2:=E1.new (o:=.list ([.str s]++Ae (f s))) hy;have hy2:up (up H' y1 (.list [.str s])) y (.list ([.str s]++Ae (f s))) y=some (.list (Ae (s::f s))):=Ah;generalize up (up H' y1 (.list [.str s])) y (.list ([.str s]++Ae (f s)))=H2 at E2 hy2;have hzy:y≠z:=λe=>by refine e22 (D.ext E2) λ_ _ e1 _=>?_;rw[<-e,hy2]at e1;exact AObj.noConfusion (Ak e1)
  refine Fk (Bu hy2) (S2 H st fu nd z y full A (s::f s) l s) ⟨_,rfl,hE.trans E2,hy2,by refine rl (take_zero ..) (rl (append_nil ..) ?_);exact D.ext E2⟩ ?_;rintro I2 hI2 j V2 H3 ⟨p5',rfl,hE3,hy3,D3⟩;refine⟨hy3.trans hy2.symm,λhj=>nx _ _ (hI' _ _ ⟨_,_,rfl,hE3,?_⟩),λo ho=>?_⟩
  ·refine rl fl ?_;rw[hj,take_length]at D3;exact D3
  ·refine⟨show 5<9 by decide,?_⟩;refine Ab λK2 nx2=>XX nk (hE3 _ _ hs) (hE3 _ _ hf) D3 ?_ λH4 k4 D4=>nx2 _ _ (hI2 _ _ _ ⟨_,rfl,k4.ext0 hE3 hz,k4 _ _ hzy hy3,?_⟩)
   ·rw[length_append]at hAl⊢;refine rl length_take ?_;exact KV hAl (by decide)
   ·refine rl (B0 ho ..) (rl (Eq.symm (append_assoc ..)) ?_);exact D4
end
end
section
open L13
inductive F1(H:Ac)(v0 v1 v2 v3 v5 v6:Option AV)(fr:Addr)(full:List Str)(p:Str->Bool)(j:Nat)(V':VV)(H':Ac):Prop
 |mk (p4 p8:Option AV) (hV:V'=[v0,v1,v2,v3,p4,v5,v6,some (.ref fr),p8]) (hK:Kb fr H H') (hf:H' fr=some (.list (Ae ((full.take j).filter p))))
inductive F2(H:Ac)(v0 v1 v2 v5 v6 v7 v8:Option AV)(z:Addr)(fresh:List Str)(d:Str->Option Nat)(N t j:Nat)(V':VV)(H':Ac):Prop
 |mk (p4:Option AV) (hV:V'=[v0,v1,v2,some (.ref z),p4,v5,v6,v7,v8]) (hK:Kb z H H') (D:DistAt H' z (λx=>if x∈fresh.take j then some t else d x) (N+j))
inductive F3(H:Ac)(st fu nd z rg:Addr)(full done dom:List Str)(f:Str->List Str)(m k:Nat)(V':VV)(H':Ac):Prop
 |mk (p4 p5 p6 p7 p8:Option AV) (d:Str->Option Nat) (hV:V'=[some (.ref st),some (.ref fu),some (.ref nd),some (.ref z),p4,p5,p6,p7,p8]) (hE:Ext H H') (hr:H' rg=some (.range 2 ((m:Int)+2))) (D:DistAt H' z d (540+60*k)) (L:Lay full f done dom d (k+1))
theorem Kb.ext'(k:Kb b H H')(e:Ext H' H''):Kb b H H'':=k.trans (.ext e)
theorem IN(hV:V[i]? =some (some (.ref a)))(h:H a=some (.list xs))(he:∀Q':AV->Ac->Prop,Q' v H->Aj g e V Q' E H)(hl:xs.length<=100000)(q:Q .none (up H a (.list (xs++[v])))):Aj g (.bm (.var i) .append [e]) V Q E H:=by
 refine rl Ax (rl Ad (rl hV ⟨?_,?_⟩))
 ·show match H a with|some (.list _)=>_|some (.dict _ _)=>_|_=>False
  exact rl h (.inl rfl)
 ·exact rl Al (he _ (DJ h hl q))
theorem IB(h:H a=some (.list (Ae l)))(q:∀H',Ext H H'->Q (.bool (nt ne l.isEmpty)) H'):∀b,H b=none->FT ne (.ref a) (.ref b) Q (up H b (.list [])):=λb hb=>by
 refine Ga (l':=[]) (Ext.refl.new hb _ _ h) Ah ?_;have:=q (up H b (.list [])) (Ext.refl.new hb);refine rl nt_eq ?_;cases l<;>exact this
theorem VH(hmd:g.md=true)(E0:Ext H0 H)(h0:H0 fr=none)(hf:H0 fu=some (.list (Ae full)))(hn:NeedsAt H0 nd f full)(D:DistAt H z d N)(hfr:H fr=some (.list []))(hl:full.length<=60)
  (q:∀H' p4 p8,Kb fr H H'->H' fr=some (.list (Ae (full.filter (D8 f d))))->QN [v0,some (.ref fu),some (.ref nd),some (.ref z),p4,v5,v6,some (.ref fr),p8] H') :
  A4 g (.for (.var 4) (.var 1) [.assign (.var 8) (.comp (.var 9) 1 false (.sub (.var 2) (.var 4)) (some (.cmp .In (.var 9) (.var 3)))),
   .ite (.ao true [(.cmp .NotIn (.var 4) (.var 3)),(.cmp .NotEq (.var 8) (.list []))]) [.expr (.bm (.var 7) .append [(.var 4)])] []]) QN QR EE [v0,some (.ref fu),some (.ref nd),some (.ref z),v4,v5,v6,some (.ref fr),v8] H:=by
 have hzf:z≠fr:=λe=>by refine e22 D λ_ _ e1 _=>?_;rw[e,hfr]at e1;exact AObj.noConfusion (Ak e1)
 refine⟨hmd,?_⟩;dsimp only[Ad,getElem?_cons_succ,Aw,B_];refine Fk (Bu (E0 _ _ hf)) (F1 H v0 (some (.ref fu)) (some (.ref nd)) (some (.ref z)) v5 v6 fr full (D8 f d)) ⟨_,_,rfl,.refl,hfr⟩ ?_;rintro I hI j V' H' ⟨p4,p8,rfl,hK,hF⟩;have hE:=hK.ext0 E0 h0;refine⟨(hE _ _ hf).trans (E0 _ _ hf).symm,λhj=>?_,λs hs=>?_⟩
 ·rw[hj,take_length]at hF;exact q H' _ _ hK hF
 ·have hsm:=mem_of_getElem? hs;refine⟨show 4<9 by decide,?_⟩;refine Ab λK nx=>?_;obtain⟨r,hr,hr8⟩:∃r,(∃ep es,H0 nd=some (.dict ep es)/\Bb es s=some (.ref r))/\H0 r=some (.list (Ae (f s)))/\(f s).length<=1000:=by
   exact e22 hn λep es h1 h2=>e13 (h2 s hsm) λr h3 h4 h5=>⟨r,⟨ep,es,h1,h3⟩,h4,h5⟩
  refine Ij hmd rfl (λo=>(d o).isSome) hr8.2 (λQ' hQ=>?_) (Bu (hE _ _ hr8.1)) (λo _ H1 E1 K1 hK1=>?_) λy H1 E1 _ hy=>⟨show 8<9 by decide,nx _ _ ?_⟩
  ·refine e22 hr λep es h1 h2=>?_;dsimp only[set_cons_succ,set_cons_zero,Au,Ad,getElem?_cons_succ,Aw];rw[CU,hE _ _ h1];exact⟨_,h2,hQ⟩
  ·dsimp only[set_cons_succ,set_cons_zero,cons_append,nil_append,Ar,AS,Ad,getElem?_cons_succ,Aw];refine DistAt.win ((D.kb hK hzf).ext E1) ?_;rw[Bool.bne_false];exact hK1 _ .refl
  ·have hK1:=hK.ext' E1;refine Ab λK nx=>?_;have skip:∀H2,Ext H1 H2->D8 f d s=false->K [v0,some (.ref fu),some (.ref nd),some (.ref z),some (.str s),v5,v6,some (.ref fr),some (.ref y)] H2:=λH2 E2 h=>nx _ _ (hI _ _ _ ⟨_,_,rfl,hK1.ext' E2,by rw[E2 _ _ (E1 _ _ hF),B0 hs,filter_append,filter_cons,if_neg (by rw[h];exact Bool.false_ne_true),List.filter_nil,append_nil]⟩);dsimp only[A7];dsimp only[set_cons_succ,set_cons_zero,Am,AQ,AT,Ar,AB,An,Ad,getElem?_cons_succ,Aw,C1];refine DistAt.win (D.kb hK1 hzf) ?_;dsimp only[Az];have fb:D8 f d s=(!(d s).isSome&&!((f s).filter λo=>(d o).isSome).isEmpty):=by
    unfold D8;congr 1;rw[Bool.eq_iff_iff,any_eq_true,Bool.not_eq_true',List.isEmpty_eq_false_iff_exists_mem];exact⟨λ⟨o,h1,h2⟩=>⟨o,mem_filter.mpr ⟨h1,h2⟩⟩,λ⟨o,h⟩=>⟨o,mem_filter.mp h⟩⟩
   cases h1:(d s).isSome with
   |true=>exact skip H1 .refl (by refine rl (fb ..) (rl (h1 ..) ?_);rfl)
   |false=>
    refine rl (if_pos rfl) ?_;dsimp only[Gp];refine IB (ne:=true) hy λH2 E2=>?_;dsimp only[Az,nt];cases h2:((f s).filter λo=>(d o).isSome).isEmpty with
    |true=>exact skip H2 E2 (by exact rl (fb ..) (rl (h2 ..) (rl (Bool.not_true ..) (rl (Bool.and_false ..) rfl))))
    |false=>
     refine rl (if_pos rfl)<|Ab λK2 nx2=>?_;dsimp only[AP];have hF2:=E2 _ _ (E1 _ _ hF);refine IN (v:=.str s) rfl hF2 (λQ' h=>h) ?_ (nx2 _ _ (nx _ _ (hI _ _ _ ⟨_,_,rfl,(hK1.ext' E2).trans .up,?_⟩)))
     ·refine rl (AO ..)<|le_trans (length_filter_le _ _) ?_;refine rl (length_take ..) ?_;exact HF hl (by decide)
     ·exact rl (Ah ..) (rl (txs_snoc ..) (rl (B0 hs ..) (rl (filter_append ..) (rl (filter_cons ..) (rl (if_pos (by refine rl (fb ..) (rl (h1 ..) (rl (h2 ..) ?_));rfl) ..) (rl (List.filter_nil ..) rfl))))))
theorem Ym{fresh}(hmd:g.md=true)(D:DistAt H z d N)(hfr:H fr=some (.list (Ae fresh)))(hN:N+fresh.length<=100000)
  (q:∀H' p4,Kb z H H'->DistAt H' z (λx=>if x∈fresh then some t else d x) (N+fresh.length)->QN [v0,v1,v2,some (.ref z),p4,v5,some (.int (t:Nat)),some (.ref fr),v8] H') :
  A4 g (.for (.var 4) (.var 7) [.assign (.sub (.var 3) (.var 4)) (.var 6)]) QN QR EE [v0,v1,v2,some (.ref z),v4,v5,some (.int (t:Nat)),some (.ref fr),v8] H:=by
 have hzf:fr≠z:=λe=>by refine e22 D λ_ _ e1 _=>?_;rw[<-e,hfr]at e1;exact AObj.noConfusion (Ak e1)
 refine⟨hmd,?_⟩;dsimp only[Ad,getElem?_cons_succ,Aw,B_];refine Fk (Bu hfr) (F2 H v0 v1 v2 v5 (some (.int (t:Nat))) (some (.ref fr)) v8 z fresh d N t) ⟨_,rfl,.refl,by refine rl take_zero (rl (show(λx=>if x∈[] then some t else d x)=d from funext λx=>if_neg not_mem_nil) ?_);exact D⟩ ?_;rintro I hI j V' H' ⟨p4,rfl,hK,D'⟩;refine⟨(hK _ _ hzf hfr).trans hfr.symm,λhj=>?_,λs hs=>?_⟩
 ·rw[hj,take_length]at D';exact q H' _ hK D'
 ·have hj:=(AJ hs).1;refine⟨show 4<9 by decide,?_⟩;refine Ab λK nx=>Po (s:=s) (λQ h=>h) (λQ h=>h) D' (by lia) λH2 k2 D2=>nx _ _ (hI _ _ _ ⟨_,rfl,hK.trans k2,?_⟩);rw[show(λx=>if x∈fresh.take (j+1) then some t else d x)=λx=>if x=s then some t else if x∈fresh.take j then some t else d x from funext λx=>?_]
  ·exact D2
  ·refine rl (B0 hs) ?_;by_cases e:x=s
   ·exact rl (if_pos e) (rl (if_pos (mem_append_right _ (by exact rl e (.head _)))) rfl)
   ·have:x∈fresh.take j++[s]↔x∈fresh.take j:=by rw[mem_append,mem_singleton];exact⟨λw=>w.resolve_right e,.inl⟩
    refine rl (if_neg e) ?_;simp only[this]
section
variable(G:Gd c L13.P)
include G
theorem Px{st fu nd}(hs:H st=some (.dict ep (B8 l)))(nk:(l.map (·.1)).Nodup)(hf:H fu=some (.list (Ae full)))(hfl:∀x∈full,x∈l.map (·.1))(hfn:full.Nodup)(hn:NeedsAt H nd f (l.map (·.1)))(h8:∀x∈l.map (·.1),(f x).length<=8)(hl:l.length<=60)
  (q:∀z H' d,Ext H H'->H z=none->DistAt H' z d 100000->Dist full f (C_ l) (Ew l f) d->Q (.ref z) H'):CallOK c (n+1) true "_law_steps" [.ref st,.ref fu,.ref nd] Q E H:=by
 have lf:full.length<=l.length:=by have:=JQ hfn hfl;rw[length_map]at this;exact this
 refine G.call (F:=L13.ZH) rfl rfl ?_;show Af _ _ _ _ _ [some (.ref st),some (.ref fu),some (.ref nd),none,none,none,none,none,none] _;refine Ab λK nx=>?_;dsimp only[At,Bg];intro z hz;refine⟨show 3<9 by decide,nx _ _ ?_⟩;refine Ab λK nx=>XW rfl nk hs hf hn h8 hl hz λH1 p4 p5 E1 D1=>nx _ _ ?_;have L1:Lay full f (C_ l) (Ew l f) (BI full (C_ l) (Ew l f)) 1:=Lay.init;generalize BI full (C_ l) (Ew l f)=d at D1 L1;generalize C_ l=done at*;generalize Ew l f=dom at*;have hn':=hn.sub hfl;refine Ab λK nx=>?_;dsimp only[BX];refine⟨rfl,?_⟩;dsimp only[A1,B_,Al,An,Av,Aq,Ad,Aw];refine rl Fj (rl (E1 _ _ hs) ⟨by unfold B8;refine rl (length_map ..) ?_;exact lt_of_le_of_lt hl (by decide),?_⟩);refine rl (show(B8 l).length=l.length by unfold B8;exact rl (length_map ..) rfl)<|rl C7 (rl LU ⟨⟨by decide,by decide,FU (by decide),by lia⟩,λrg hrg=>?_⟩);have E2:=Ext.refl.new (o:=.range 2 ((l.length:Int)+2)) hrg;have hr2:up H1 rg (.range 2 ((l.length:Int)+2)) rg=some (.range 2 ((l.length:Int)+2)):=Ah;generalize up H1 rg (.range 2 ((l.length:Int)+2))=H2 at E2 hr2;refine Xw hr2 (F3 H st fu nd z rg full done dom f l.length) ⟨_,_,_,_,_,d,rfl,E1.trans E2,hr2,D1.ext E2,L1⟩ ?_;clear E1 D1 L1 E2 hrg hr2;rintro I hI k V' H' ⟨p4',p5',p6,p7,p8,d,rfl,hE,hr,D,L⟩;refine⟨hr,λhk=>nx _ _ ?_,λhk=>?_⟩
 ·show Q (.ref z) H';exact q z H' d hE hz (D.le (by lia)) (L.out (by lia))
 ·refine⟨show 6<9 by decide,?_⟩;refine Ab λK nx=>?_;intro fr hfr;refine⟨show 7<9 by decide,nx _ _ ?_⟩;have E3:=hE.new (o:=.list []) hfr;have D3:=D.ext (Ext.refl.new (o:=.list []) hfr);have hr3:=Ext.refl.new (o:=.list []) hfr _ _ hr;have hfr0:=hE.none hfr;have hf3:up H' fr (.list []) fr=some (.list []):=Ah;generalize up H' fr (.list [])=H3 at E3 D3 hr3 hf3;refine Ab λK nx=>VH rfl E3 hfr0 hf hn' D3 hf3 (le_trans lf hl) λH4 p4 p8 K4 hF=>nx _ _ ?_;have hzf:z≠fr:=λe=>by refine e22 D3 λ_ _ e1 _=>?_;rw[e,hf3]at e1;exact AObj.noConfusion (Ak e1)
  have hrf:rg≠fr:=λe=>by rw[e,hf3]at hr3;exact AObj.noConfusion (Ak hr3)
  have hrz:rg≠z:=λe=>by refine e22 D3 λ_ _ e1 _=>?_;rw[<-e,hr3]at e1;exact AObj.noConfusion (Ak e1)
  have E4:=K4.ext0 E3 hfr0;have D4:=D3.kb K4 hzf;have hr4:=K4 _ _ hrf hr3;have fl:=length_filter_le (D8 f d) full;have L4:=L.next;have still:=L.still;generalize full.filter (D8 f d)=fresh at hF fl L4 still;refine Ab λK nx=>?_;dsimp only[A7,Ar,AB,An,NC];refine IB (ne:=false) hF λH5 E5=>?_;cases hem:fresh.isEmpty with
  |true=>exact q z H5 d (E4.trans E5) hz ((D4.ext E5).le (by lia)) (still (isEmpty_iff.mp hem))
  |false=>
   refine nx _ _<|Ab λK nx=>Ym (t:=k+2) rfl (D4.ext E5) (E5 _ _ hF) (by lia) λH6 p4 K6 D6=>nx _ _ (hI _ _ _ ⟨_,_,_,_,_,_,rfl,K6.ext0 (E4.trans E5) hz,K6 _ _ hrz (E5 _ _ hr4),D6.le (by lia),L4⟩)
end
end
section
open L13
inductive Wy(H:Ac)(d:Str->Option Nat)(f:Str->List Str)(x:Str)(sh nd wz:Addr)(m:Nat)(V':VV)(H':Ac):Prop
 |no (hd:d x=none) (hV:V'=[some (.str x),some (.ref sh),some (.ref nd),some (.ref wz),some (.str x)]) (hE:Ext H H') (hw:H' wz=some (.list (Ae [])))
 |on (T:Nat) (l:List Str) (here:Str) (hd:d x=some T) (hV:V'=[some (.str x),some (.ref sh),some (.ref nd),some (.ref wz),some (.str here)]) (hE:Ext H H') (hw:H' wz=some (.list (Ae l))) (hm:l.length+m=T) (h1:1<=m) (hg:GP f d T x (l++[here]))
 |dn (T:Nat) (l:List Str) (here:Str) (hd:d x=some T) (hV:V'=[some (.str x),some (.ref sh),some (.ref nd),some (.ref wz),some (.str here)]) (hE:Ext H H') (hw:H' wz=some (.list (Ae l))) (hm:l.length=T) (hg:GP f d T x l) (hs:(d here).isSome=true)
noncomputable def Hj(d:Str->Option Nat)(k:Nat)(o:Str):Bool:=match d o with
 |none=>false
 |some s=>((s:Nat):Int)==((k:Nat):Int) - 1
theorem M1(hk:1<=k):Hj d k o=true↔d o=some (k - 1):=by
 unfold Hj;cases h:d o with
 |none=>exact⟨λz=>by trivial,λz=>by trivial⟩
 |some s=>
  rw[beq_iff_eq,Option.some.injEq];constructor<;>(intro z;lia)
section
variable(G:Gd c L13.P)
theorem Xi(hmd:g.md=true)(D:Dist full f done dom d)(hS:DistAt H sh d 100000)(hn:NeedsAt H nd f full)(hk:d here=some k)(h1:k≠1)
  (q:∀H' y pre post,Ext H H'->f here=pre++y::post->d y=some (k - 1)->(∀o∈pre,d o≠some (k - 1))->Q (.str y) H') :
  Aj g (.sub (.comp (.var 5) 1 false (.sub (.var 2) (.var 4)) (some (.ao true [(.cmp .In (.var 5) (.var 1)),(.cmp .Eq (.sub (.var 1) (.var 5)) (.bin .Sub (.sub (.var 1) (.var 4)) (.lit (.int 1))))]))) (.lit (.int 0))) [some (.str x),some (.ref sh),some (.ref nd),some (.ref wz),some (.str here)] Q E H:=by
 have k1:=D.pos here k hk;obtain⟨hf,o₀,ho0,hs₀⟩:=D.far here k hk h1;refine e22 hn λep es hd hr=>e13 (hr here hf) λr hr1 hr2 hr8=>rl Au<|Ij hmd rfl (Hj d k) hr8 (λQ' hQ=>?_) (Bu hr2) (λo _ H1 E1 K1 hK1=>?_) λy H1 E1 _ hy=>?_
 ·dsimp only[Au,Ad,getElem?_cons_succ,Aw];exact rl CU (rl hd ⟨_,hr1,hQ⟩)
 ·have hS1:=hS.ext E1;have hK:=hK1 _ .refl;dsimp only[cons_append,nil_append,Am,AQ,AT,Ar,Av,Aq,Au,Ad,getElem?_cons_succ,Aw,AS];refine DistAt.win hS1 ?_;dsimp only[Az];unfold Hj at hK;cases h:d o with
  |none=>rw[h]at hK;exact hK
  |some s=>
   rw[h]at hK;exact rl (if_pos rfl) (DistAt.sub hS1 h (DistAt.sub hS1 hk hK))
 ·have hne:(f here).filter (Hj d k)≠[]:=λh=>filter_eq_nil_iff.mp h o₀ ho0 ((M1 k1).mpr hs₀);refine e21 (List.exists_cons_of_ne_nil hne) λw ws hws=>e22 (VJ hws) λpre post e1 e2=>?_;have hwm:w∈(f here).filter (Hj d k):=by exact rl hws (.head _)
  refine JJ (k:=0) hy (by refine rl hws ?_;rfl) (le_trans (length_filter_le _ _) hr8) ?_;exact q H1 w pre post E1 e1 ((M1 k1).mp (mem_filter.mp hwm).2) λo ho h=>by exact absurd ((e2 o ho).symm.trans ((M1 k1).mpr h)) Bool.false_ne_true
include G
set_option tactic.hygienic true in
theorem Xp(D:Dist full f done dom d)(hl:full.length<=60)(hS:DistAt H sh d 100000)(hn:NeedsAt H nd f full)
  (q:∀z l H',Ext H H'->H z=none->H' z=some (.list (Ae l))->Ki f d x l->Q (.ref z) H'):CallOK c (n+1) true "_law_way" [.str x,.ref sh,.ref nd] Q E H:=by
 refine G.call (F:=L13.ZI) rfl rfl ?_;show Af _ _ _ _ _ [some (.str x),some (.ref sh),some (.ref nd),none,none] _;refine Ab λK nx=>?_;dsimp only[At,AB,An];intro wz hwz;refine⟨show 3<5 by decide,nx _ _ ?_⟩;refine Ab λK nx=>⟨show 4<5 by decide,nx _ _ ?_⟩
 show Af _ _ _ _ _ [some (.str x),some (.ref sh),some (.ref nd),some (.ref wz),some (.str x)] _;have E0:=Ext.refl.new (o:=.list []) hwz;have h0:up H wz (.list []) wz=some (.list (Ae [])):=Ah;generalize up H wz (.list [])=H1 at E0 h0;refine Ab λK nx=>?_;dsimp only[CT];refine⟨rfl,Wy H d f x sh nd wz,?_,?_⟩
 ·cases hd:d x with
  |none=>exact⟨0,.no hd rfl E0 h0⟩
  |some T=>exact⟨T,.on T [] x hd rfl E0 h0 (zero_add T) (D.pos x T hd) ⟨rfl,λi y hy=>by
    cases i with
    |zero=>obtain rfl:=Ak hy;exact hd
    |succ i=>trivial,λi y w _ hw=>by trivial⟩⟩
 rintro m V' H' w;have tst:∀{here:Str} {l:List Str} {T:Nat} {Kq:Bool->Ac->Prop},d x=some T->Ext H H'->H' wz=some (.list (Ae l))->l.length<=1000->(d here).isSome=true->Kq (decide (l.length<T)) H'->Aj ⟨c,n,true⟩ (.ao true [(.cmp .In (.var 4) (.var 1)),(.cmp .Lt (.prim .len [(.var 3)]) (.sub (.var 1) (.var 0)))]) [some (.str x),some (.ref sh),some (.ref nd),some (.ref wz),some (.str here)] (λv H=>BF v H λt=>Kq t H) (λ_ _=>False) H':=λ{here l T Kq} hd hE hw hll hs hq=>by
  dsimp only[Am,AQ,AT,Ar,Au,Ad,Aw,getElem?_cons_succ,A1,Al,An,AS];refine DistAt.win (hS.ext hE) ?_;dsimp only[Az];rw[hs];refine rl (if_pos rfl)<|JX hw hll<|DistAt.sub (hS.ext hE) hd ?_;show Kq (decide ((l.length:Int)<(T:Int))) H';rw[decide_eq_decide.mpr ofNat_lt];exact hq
 cases w with
 |no hd hV hE hw=>
  rw[hV];dsimp only[Am,AQ,AT,Ar,Au,Ad,Aw,getElem?_cons_succ,A1,Al,An,AS];refine DistAt.win (hS.ext hE) ?_;rw[hd];exact nx _ _ (q wz [] H' hE hwz hw ⟨λ_=>rfl,λT hT=>by rw[hd]at hT;trivial⟩)
 |dn T l here hd hV hE hw hm hg hs=>
  rw[hV];have:=D.le hd;refine tst hd hE hw (by lia) hs ?_;rw[decide_eq_false (by lia)];exact nx _ _ (q wz l H' hE hwz hw ⟨λh=>by rw[hd]at h;trivial,λT' hT=>by rw[hd]at hT;rw[<-Ak hT];exact⟨hm,hg⟩⟩)
 |on T l here hd hV hE hw hm h1 hg=>
  rw[hV];have hle:=D.le hd;have hdh:d here=some m:=by
   have:=hg.dv l.length here (by rw[getElem?_append_right (le_refl _),sub_self];rfl);rw[this,<-hm,Nat.add_sub_cancel_left]
  refine tst hd hE hw (HG hm hle hl (by decide)) (by rw[hdh];rfl) ?_;rw[decide_eq_true (Hy h1 hm)];refine rl (if_pos rfl)<|Ab λK nx=>?_;dsimp only[AP];refine IN (v:=.str here) rfl hw (λQ' h=>h) (by rw[AO];exact HG hm hle hl (by decide)) (nx _ _ ?_);rw[txs_snoc];have E2:Ext H (up H' wz (.list (Ae (l++[here])))):=hE.own hwz;have hw2:up H' wz (.list (Ae (l++[here]))) wz=some (.list (Ae (l++[here]))):=Ah;generalize up H' wz (.list (Ae (l++[here])))=H2 at E2 hw2;refine Ab λK nx=>?_;dsimp only[A7];dsimp only[Ar,Aq,Au,Ad,getElem?_cons_succ,Aw];refine DistAt.sub (hS.ext E2) hdh ?_;dsimp only[Bw,Az];by_cases hm1:m=1
  ·rw[decide_eq_false (by lia)];refine nx _ _ ⟨0,by assumption,.dn T (l++[here]) here hd rfl E2 hw2 (by rw[length_append,<-hm,hm1];rfl) hg (by rw[hdh];rfl)⟩
  ·rw[decide_eq_true (by lia)];refine rl (if_pos rfl)<|Ab λK2 nx2=>?_;dsimp only[At];refine Xi rfl D (hS.ext E2) (hn.ext E2) hdh hm1 λH3 y pre post E3 e1 e2 e3=>⟨show 4<5 by decide,nx2 _ _ (nx _ _ ⟨m - 1,Nat.sub_one_lt_of_lt h1,?_⟩)⟩
   have ek:m - 1=T - l.length - 1:=Ku hm
   rw[ek]at e2 e3;exact .on T (l++[here]) y hd rfl (E2.trans E3) (E3 _ _ hw2) (by rw[length_append];show l.length+1+_=T;lia) (KG h1 hm1) (hg.snoc e2 e1 e3)
end
end
section
open L13
noncomputable def wD(es:List (Str×Addr)):List (Str×AV):=es.map λe=>(e.1,.ref e.2)
noncomputable def DE:Str:=ofString "more"
structure WhyAt(H0 H:Ac)(wh:Addr)(es:List (Str×Addr))(w:Str->List Str):Prop where
 at_:∃ep,H wh=some (.dict ep (wD es))
 kn:(es.map (·.1)).Nodup
 an:(es.map (·.2)).Nodup
 v:∀e∈es,H e.2=some (.list (Ae (w e.1)))
 fr:∀e∈es,H0 e.2=none
def NdIn(H0 H:Ac)(nd:Addr)(f:Str->List Str)(l:List Str):Prop:=∃ep es,H nd=some (.dict ep es)/\∀x∈l,∃r,Bb es x=some (.ref r)/\H0 r=some (.list (Ae (f x)))/\(f x).length<=1000
section
variable{H0 H H':Ac}{f w:Str->List Str}{l l':List Str}{es:List (Str×Addr)}
theorem NdIn.at(h:NdIn H0 H nd f l)(e:Kp H0 H):NeedsAt H nd f l:=let ⟨ep,es,h1,h2⟩:=h;⟨ep,es,h1,λx hx=>let ⟨r,a,b,c⟩:=h2 x hx;⟨r,a,e _ _ rfl b,c⟩⟩
theorem NdIn.ext(h:NdIn H0 H nd f l)(e:Ext H H'):NdIn H0 H' nd f l:=let ⟨ep,es,h1,h2⟩:=h;⟨ep,es,e _ _ h1,h2⟩
theorem NdIn.sub(h:NdIn H0 H nd f l)(e:∀x∈l',x∈l):NdIn H0 H nd f l':=let ⟨ep,es,h1,h2⟩:=h;⟨ep,es,h1,λx hx=>h2 x (e x hx)⟩
theorem QI{k:Nat}(nd:(es.map (·.1)).Nodup)(h:es[k]? =some e):Bb (wD es) e.1=some (.ref e.2):=by
 induction es generalizing k with
 |nil=>trivial
 |cons y es ih=>
  refine Ap (nodup_cons.mp nd) λn1 n2=>?_;unfold Bb wD;refine rl map_cons (rl (find?_cons) ?_);cases k with
  |zero=>obtain rfl:=Ak h;refine rl (show decide (y.1=y.1)=true from decide_eq_true rfl) ?_;rfl
  |succ k=>
   exact rl (show decide (y.1=e.1)=false from decide_eq_false λz=>n1 (mem_map.mpr ⟨e,mem_of_getElem? h,z.symm⟩))<|ih n2 h
theorem It:(wD es).map (·.1)=es.map (·.1):=by unfold wD;refine rl map_map ?_;rfl
theorem QE{i k:Nat}(an:(es.map (·.2)).Nodup)(h:es[i]? =some e)(h':es[k]? =some e')(z:e.2=e'.2):i=k:=by
 have hl:i<(es.map (·.2)).length:=by exact rl (length_map ..) ((AJ h).1)
 have:(es.map (·.2))[i]? =(es.map (·.2))[k]?:=by refine rl (getElem?_map) (rl (getElem?_map) (rl h (rl h' ?_)));exact congrArg some z
 exact(List.getElem?_inj hl an).mp this
def Kw(es:List (Str×Addr))(H H':Ac):Prop:=∀a x,(∀e∈es,a≠e.2)->H a=some x->H' a=some x
theorem Kw.ext0(k:Kw es H H')(e:Ext H0 H)(h:∀e∈es,H0 e.2=none):Ext H0 H':=λa x hx=>k a x (λe he=>Cd hx (h e he)) (e a x hx)
theorem Kw.dict(k:Kw es H H')(v:∀e∈es,H e.2=some (.list (Ae (w e.1))))(h:H a=some (.dict ep ds)):H' a=some (.dict ep ds):=k a _ (λe he q=>by rw[q,v e he]at h;exact AObj.noConfusion (Ak h)) h
end
inductive Wl(H:Ac)(wh sh nd:Addr)(es:List (Str×Addr))(w:Str->List Str)(k:Nat)(V':VV)(H':Ac):Prop
 |mk (p3:Option AV) (hV:V'=[some (.ref wh),some (.ref sh),some (.ref nd),p3]) (hK:Kw es H H') (hd:∀i e,i<k->es[i]? =some e->H' e.2=some (.list (Ae (w e.1++[DE])))/\(w e.1).length<=100) (hu:∀i e,k<=i->es[i]? =some e->H' e.2=some (.list (Ae (w e.1))))
section
variable(G:Gd c L13.P){Q:AV->Ac->Prop}{E:String->Ac->Prop}{H0 H:Ac}{full done dom:List Str}{f w:Str->List Str}{d:Str->Option Nat}{es:List (Str×Addr)}
theorem LX(h:H a=some (.list xs)):DH P H (.ref a) "list"=some true:=by
 refine rl (IF (k:="list") (WE h) (.inr (.inr (.inr rfl)))) ?_;rfl
theorem IJ{ep k:Nat}(hw:H wh=some (.dict ep (wD es)))(kn:(es.map (·.1)).Nodup)(he:es[k]? =some e)(q:Q (.ref e.2) H):A8 (.ref wh) (.str e.1) Q H:=by
 exact rl CU (rl hw ⟨_,QI kn he,q⟩)
include G
set_option tactic.hygienic true in
theorem Qi(W:WhyAt Hb H wh es w)(K0:Kp H0 H)(hfr:∀e∈es,∀a x,x.isB=false->H0 a=some x->a≠e.2)(D:Dist full f done dom d)(hl:full.length<=60)(hS:DistAt H sh d 100000)(hN:NdIn H0 H nd f full)(hw:∀e∈es,∀l,Ki f d e.1 l->w e.1=l)(he:es.length<=1000)
  (q:∀H',Kw es H H'->(∀e∈es,H' e.2=some (.list (Ae (w e.1++[DE])))/\(w e.1).length<=100)->Q (.bool true) H'):CallOK c (n+2) true "_law_why" [.ref wh,.ref sh,.ref nd] Q E H:=by
 obtain⟨⟨ep,hwh⟩,kn,an,hv,_⟩:=W;refine G.call (F:=L13.ZJ) rfl rfl<|Ab λK nx=>⟨rfl,?_⟩
 dsimp only[Ad,B_];have hi:=JS hwh;rw[It]at hi;refine Fk hi (Wl H wh sh nd es w) ⟨_,rfl,λa x _ h=>h,λi e h=>absurd h (not_lt_zero i),λi e _ h=>hv e (mem_of_getElem? h)⟩ ?_;rintro I hI k V' H' ⟨p3,rfl,hK,hd,hu⟩;have hE:Kp H0 H':=λa x hb hx=>hK a x (λe he=>hfr e he a x hb hx) (K0 a x hb hx);have hwh':=hK.dict hv hwh;refine⟨hwh'.trans hwh.symm,λhk=>nx _ _ ?_,λs hs=>?_⟩
 ·refine q H' hK λe he=>?_;obtain⟨i,hi,rfl⟩:=mem_iff_getElem.mp he;exact hd i _ (by refine rl (hk ..) (rl (length_map ..) ?_);exact hi) (getElem?_eq_getElem hi)
 ·rw[getElem?_map,map_eq_some_iff]at hs;refine e12 hs λe hek z22=>?_;obtain rfl:=z22;have hem:=mem_of_getElem? hek;have hcur:=hu k e (le_refl k) hek;refine⟨show 3<4 by decide,?_⟩;refine Ab λK nx=>?_;dsimp only[A7,Am,AQ,AT,AF,Ba,Au,Ad];show A8 (.ref wh) (.str e.1) _ H';refine IJ hwh' kn hek<|rl (LX hcur) ?_;dsimp only[Az];refine rl (if_pos rfl)<|IJ hwh' kn hek ?_;have hN':NdIn H0 H' nd f full:=by
   exact e22 hN λep' es' h1 h2=>⟨ep',es',hK.dict hv h1,h2⟩
  have hS':DistAt H' sh d 100000:=by
   exact e22 hS λep' es' h1 h2=>⟨ep',es',hK.dict hv h1,h2⟩
  refine Xp (n:=n) G D hl hS' (hN'.at hE) λz l H1 E1 hz0 hz wo=>?_;have hwl:=hw e hem l wo;have hll:l.length<=100:=by
   cases hdx:d e.1 with
   |none=>refine rl (wo.z hdx) ?_;decide
   |some T=>refine rl ((wo.s T hdx).1) ?_;have:=D.le hdx;lia
  rw[<-hwl]at hz hll;dsimp only[Gp];refine Ga (E1 _ _ hcur) hz<|rl (decide_eq_true rfl)<|nx _ _<|Ab λK nx=>?_;dsimp only[AP,Ax,Au,Ad];show A8 (.ref wh) (.str e.1) _ H1;refine IJ (E1 _ _ hwh') kn hek ?_;have hc1:=E1 _ _ hcur;refine⟨?_,?_⟩
  ·show match H1 e.2 with|some (.list _)=>_|some (.dict _ _)=>_|_=>False
   exact rl hc1 (.inl rfl)
  dsimp only[Al,An,Aq];refine DJ hc1 (rl AO (le_trans hll (by decide))) (nx _ _ (hI _ _ _ ⟨_,rfl,λa x ha hx=>?_,λi e' hi he'=>?_,λi e' hi he'=>?_⟩))
  ·exact rl (Ag (ha e hem)) (E1 _ _ (hK a x ha hx))
  ·by_cases q:i=k
   ·rw[q,hek]at he';exact rl (Eq.symm (Ak he')) (rl Ah ⟨congrArg (λl=>some (AObj.list l)) txs_snoc,hll⟩)
   ·rw[Ag]
    ·exact⟨E1 _ _ (hd i e' (HM hi q) he').1,(hd i e' (HM hi q) he').2⟩
    ·exact λz=>q (QE an he' hek z)
  ·rw[Ag]
   ·exact E1 _ _ (hu i e' (by exact le_of_lt (by assumption)) he')
   ·exact λz=>absurd (QE an he' hek z) (by exact ne_of_gt (by assumption))
end
end
section
open L13
inductive Rw(H:Ac)(t:Addr)(r:Rd):Prop
 |mk (pl gl nl:Addr) (ht:H t=some (.tuple [.str r.nm,.ref pl,.ref gl,.ref nl,.int r.last])) (hp:PL H pl r.ps) (hg:PL H gl r.gs) (hn:H nl=some (.list (Ae r.ns)))
abbrev Di(H:Ac):List Addr->List Rd->Prop:=All2 (Rw H)
theorem PL.kp(p:PL H a l)(e:Kp H H'):PL H' a l:=let ⟨ts,h,p⟩:=p;⟨ts,e _ _ rfl h,p.keep λa v h=>e _ _ rfl h⟩
theorem Rw.kp(w:Rw H t r)(e:Kp H H'):Rw H' t r:=let ⟨pl,gl,nl,ht,hp,hg,hn⟩:=w;⟨pl,gl,nl,e _ _ rfl ht,hp.kp e,hg.kp e,e _ _ rfl hn⟩
theorem GN(h:Di H ts rs)(e:Kp H H'):Di H' ts rs:=h.map λw=>w.kp e
theorem C'(hV:V[i]? =some (some (.ref t)))(w:Rw H t r)(q:Q (.str r.nm) H):Aj g (.sub (.var i) (.lit (.int 0))) V Q E H:=by
 obtain⟨pl,gl,nl,ht,_⟩:=w;exact rl Au (rl Ad (rl hV (FH (j:=0) ht rfl (show 5<=1000 by decide) q)))
noncomputable def wB(B:Bk)(g:List Str):Str->List Str:=G1 (AG B.pacts) (AX B) (Bv B.pacts) g (C8 B).length
section
variable(G:Gd c L13.P)
include G
theorem Q3(R:Rok pur rs)(I:Iv pur rs B)(hg:Grt (AG B.pacts) (AX B) (Bv B.pacts) g)(hb:H b=some (.book B))(hx:x∈B.pacts)(q:∀z,H z=none->Q (.ref z) (up H z (.list (Ae (wB B g x.name))))):CallOK c (n+4) true "Book.why_not" [.ref b,.str x.name] Q E H:=by
 refine e11 (I.pv R hx) λj hj=>Sq (dom:=C8 B) G U13 (Kv.nm (R.nm _ (I.mem hx))).kn rfl rfl rfl rfl rfl rfl rfl hb (I.ok R) (I.nd R) hj (JB (mem_map_of_mem hx)) (λy hy o ho=>LW (ED hy) ho) (le_trans (I.dl R) (by decide)) λz g' hz hg'=>?_;have:=q z hz;rw[hg.uniq hg' (I4 (I.nd R))]at this;exact this
theorem LK(R:Rok pur rs)(I:Iv pur rs B)(hb:H b=some (.book B))(hx:x∈B.pacts)(q:Q (.str x.state.str) H):CallOK c (n+3) true "Book.state_of" [.ref b,.str x.name] Q E H:=by
 exact e11 (I.pv R hx) λj hj=>WK G U13 rfl hb (Kv.nm (R.nm _ (I.mem hx))).kn<|rl hj q
theorem XC(R:Rok pur rs)(I:Iv pur rs B)(hb:H b=some (.book B))(hx:x∈B.pacts)(q:Q (.bool (CX x)) H):CallOK c (n+3) true "Book.full" [.ref b,.str x.name] Q E H:=by
 exact e11 (I.pv R hx) λj hj=>RG G U13 rfl rfl hb (I.ok R) (Kv.nm (R.nm _ (I.mem hx))).kn<|rl hj q
end
inductive As(H:Ac)(B:Bk)(w:Str->List Str)(fu st wh zz:Addr)(pl:List AV)(a b c:Nat)(H':Ac):Prop
 |mk (es:List (Str×Addr)) (ep:Nat) (hE:Ext H H') (hf:H' fu=some (.list (Ae (AG (B.pacts.take a))))) (hs:H' st=some (.dict ep (B8 (Bn (B.pacts.take b))))) (W:WhyAt H H' wh es w) (ne:st≠wh) (nf:∀e∈es,e.2≠fu) (ks:(es.map (·.1)).Sublist ((B.pacts.map (·.name)).take c)) (nn:H fu=none/\H st=none/\H wh=none) (hz:H' zz=some (.list pl)/\zz≠fu)
theorem WhyAt.keep(W:WhyAt H0 H wh es w)(k1:∀ep ds,H wh=some (.dict ep ds)->H' wh=some (.dict ep ds))(k2:∀e∈es,∀x,H e.2=some x->H' e.2=some x):WhyAt H0 H' wh es w:=
 let ⟨⟨ep,h⟩,kn,an,v,fr⟩:=W
 ⟨⟨ep,k1 _ _ h⟩,kn,an,λe he=>k2 e he _ (v e he),fr⟩
theorem WhyAt.ext(W:WhyAt H0 H wh es w)(e:Ext H H'):WhyAt H0 H' wh es w:=W.keep (λ_ _ h=>e _ _ h) λ_ _ _ h=>e _ _ h
theorem PZ(h:k∉es.map (·.1)):AI es k v=es++[(k,v)]:=if_neg (by exact rl GD (rl (decide_eq_false h) Bool.false_ne_true))
theorem Io:(B8 l).map (·.1)=l.map (·.1):=by unfold B8;refine rl map_map ?_;rfl
theorem stL_keys:(Bn ps).map (·.1)=ps.map (·.name):=by unfold Bn;refine rl map_map ?_;rfl
theorem Qh{ps:List Pc}(nd:(ps.map (·.name)).Nodup)(h:ps[j]? =some x):x.name∉(ps.map (·.name)).take j:=λhm=>by
 have h':(ps.map (·.name))[j]? =some x.name:=by refine rl (getElem?_map) (rl h ?_);rfl
 have:=(nodup_append.mp (show((ps.map (·.name)).take j++[x.name]).Nodup by exact rl (Eq.symm (B0 h')) (nd.sublist (take_sublist _ _)))).2.2 _ hm x.name (.head _);exact this rfl
theorem N0(h:n<=60):IntMulOk (n:Nat) b:=IntMulOk.of_left ((by decide +kernel:∀n:Fin 61,Builtin.Int.intBits ((n.val:Nat):Int)<=64) ⟨n,Nat.lt_succ_of_le h⟩)
noncomputable def Eu:List S:=[.ite (.ao true [(.cmp .Eq (.var 7) (.lit (.int 0))),(.meth (.var 0) "full" [(.sub (.var 9) (.lit (.int 0)))])]) [.expr (.bm (.var 3) .append [(.sub (.var 9) (.lit (.int 0)))])] [.ite (.cmp .Eq (.var 7) (.lit (.int 1))) [.assign (.sub (.var 4) (.sub (.var 9) (.lit (.int 0)))) (.meth (.var 0) "state_of" [(.sub (.var 9) (.lit (.int 0)))])] [.ite (.ao true [(.cmp .Eq (.var 7) (.lit (.int 2))),(.cmp .Lt (.bin .Mult (.prim .len [(.var 5)]) (.prim .len [(.var 1)])) (.bin .Mult (.var 6) (.bin .Add (.var 8) (.lit (.int 1)))))]) [.assign (.sub (.var 5) (.sub (.var 9) (.lit (.int 0)))) (.meth (.var 0) "why_not" [(.sub (.var 9) (.lit (.int 0)))])] []]]]
section
variable{c:Cx}(G:Gd c L13.P){n:Nat}{QN:VV->Ac->Prop}{QR:AV->Ac->Prop}{EE:String->VV->Ac->Prop}{H H':Ac}{b tl fu st wh t zz:Addr}{pl:List AV}{B:Bk}{pur gs:List Str}{rs:List Rd}{x:Pc}{a1 a2 a3 j:Nat}{v2 v6:Option AV}{xs:List AV}{many:Nat}
include G
theorem MR(R:Rok pur rs)(I:Iv pur rs B)(hb:H b=some (.book B))(hx:B.pacts[a1]? =some x)(hr:Rw H t x.rd)(A:As H B (wB B gs) fu st wh zz pl a1 a2 a3 H')
  (q:∀H'',As H B (wB B gs) fu st wh zz pl (a1+1) a2 a3 H''->QN [some (.ref b),some (.ref tl),v2,some (.ref fu),some (.ref st),some (.ref wh),v6,some (.int 0),some (.int j),some (.ref t)] H'') :
  Af ⟨c,n+4,true⟩ Eu QN QR EE [some (.ref b),some (.ref tl),v2,some (.ref fu),some (.ref st),some (.ref wh),v6,some (.int 0),some (.int j),some (.ref t)] H':=by
 obtain⟨es,ep,hE,hf,hs,W,ne,nf,ks,nn,hzz⟩:=A;have hM:c.P.meths=BK.meths:=by refine rl G.hP ?_;rfl
 have hxm:=mem_of_getElem? hx;have hrk:=hr.kp (.ext hE);have e1:AG (B.pacts.take (a1+1))=AG (B.pacts.take a1)++if CX x then[x.name] else[]:=by exact rl (B0 hx) Oz
 refine Ab λK nx=>?_;dsimp only[A7];dsimp only[Am,AQ,AT,Ar,Aq,Ad,getElem?_cons_succ,Aw,AD,Int.reduceBEq,Az,↓dreduceIte];show Aj _ (.meth (.var 0) "full" _) _ _ _ _;refine Db hM (by decide) (by decide) (hE _ _ hb) rfl<|rl Al (C' (r:=x.rd) rfl hrk (rl An (XC (n:=n+1) G R I (hE _ _ hb) hxm ?_)));cases hfx:CX x with
 |false=>
  rw[hfx]at e1;refine nx _ _ (q _ ⟨es,ep,hE,by rw[e1];exact hf.trans (by rw[if_neg Bool.false_ne_true,append_nil]),hs,W,ne,nf,ks,nn,hzz⟩)
 |true=>
  rw[hfx]at e1;refine Ab λK2 nx2=>?_;dsimp only[AP];refine IN (v:=.str x.name) rfl hf (λQ' h=>C' (r:=x.rd) rfl hrk h) (by refine rl AO ?_;refine le_trans Fe ?_;refine rl length_take (rl I.ln ?_);have:=R.len;exact HF this (by decide)) (nx2 _ _ (nx _ _ (q _ ⟨es,ep,hE.own nn.1,?_,?_,W.keep (λep ds h=>?_) (λe he y hy=>?_),ne,nf,ks,nn,by exact rl (Ag hzz.2) hzz⟩)))
  ·refine rl Ah (rl txs_snoc (rl e1 ?_));rfl
  ·refine rl (Ag (λe=>by rw[e,hf]at hs;exact AObj.noConfusion (Ak hs))) ?_;exact hs
  ·refine rl (Ag (λe=>by rw[e,hf]at h;exact AObj.noConfusion (Ak h))) ?_;exact h
  ·exact rl (Ag (nf e he)) hy
theorem MS(R:Rok pur rs)(I:Iv pur rs B)(hb:H b=some (.book B))(hx:B.pacts[a2]? =some x)(hr:Rw H t x.rd)(A:As H B (wB B gs) fu st wh zz pl a1 a2 a3 H')
  (q:∀H'',As H B (wB B gs) fu st wh zz pl a1 (a2+1) a3 H''->QN [some (.ref b),some (.ref tl),v2,some (.ref fu),some (.ref st),some (.ref wh),v6,some (.int 1),some (.int j),some (.ref t)] H'') :
  Af ⟨c,n+4,true⟩ Eu QN QR EE [some (.ref b),some (.ref tl),v2,some (.ref fu),some (.ref st),some (.ref wh),v6,some (.int 1),some (.int j),some (.ref t)] H':=by
 obtain⟨es,ep,hE,hf,hs,W,ne,nf,ks,nn,hzz⟩:=A;have hM:c.P.meths=BK.meths:=by refine rl G.hP ?_;rfl
 have hxm:=mem_of_getElem? hx;have hrk:=hr.kp (.ext hE);have e1:Bn (B.pacts.take (a2+1))=Bn (B.pacts.take a2)++[(x.name,x.state)]:=by refine rl (B0 hx) ?_;unfold Bn;refine rl map_append ?_;rfl
 refine Ab λK nx=>Ab λK2 nx2=>Ab λK3 nx3=>?_;dsimp only[At];refine Db hM (by decide) (by decide) (hE _ _ hb) rfl<|rl Al (C' (r:=x.rd) rfl hrk (rl An (LK (n:=n+1) G R I (hE _ _ hb) hxm ?_)));dsimp only[AC,Ad];refine C' (r:=x.rd) rfl hrk ?_;show match H' st with|some (.dict _ es)=>_|_=>False
 refine rl hs ⟨by unfold B8 Bn;refine rl (length_map ..) (rl (length_map ..) (rl (length_take ..) (rl (I.ln ..) ?_)));have:=R.len;exact le_trans (min_le_right _ _) (le_trans this (by decide)),λep'=>nx3 _ _ (nx2 _ _ (nx _ _ (q _ ⟨es,ep',hE.own nn.2.1,?_,?_,W.keep (λep ds h=>?_) (λe he y hy=>?_),ne,nf,ks,nn,by refine rl (Ag (λe=>by rw[e,hs]at hzz;exact AObj.noConfusion (Ak hzz.1)) ..) ?_;exact hzz⟩)))⟩
 ·refine rl (Ag (λe=>by rw[e,hs]at hf;exact AObj.noConfusion (Ak hf))) ?_;exact hf
 ·rw[Ah,PZ,e1]
  ·unfold B8;refine rl map_append ?_;rfl
  ·exact rl Io (rl stL_keys (rl map_take (Qh (I.nd R) hx)))
 ·exact rl (Ag ne.symm) h
 ·refine rl (Ag (λz=>by rw[z,hs]at hy;have:=W.v e he;rw[z,hs]at this;exact AObj.noConfusion (Ak this))) ?_;exact hy
theorem MT(R:Rok pur rs)(I:Iv pur rs B)(hg:Grt (AG B.pacts) (AX B) (Bv B.pacts) gs)(hb:H b=some (.book B))(htl:H tl=some (.list xs))(hxs:xs.length<=60)(hx:B.pacts[a3]? =some x)(hr:Rw H t x.rd)(A:As H B (wB B gs) fu st wh zz pl a1 a2 a3 H')(hm:many<=60)
  (q:∀H'',As H B (wB B gs) fu st wh zz pl a1 a2 (a3+1) H''->QN [some (.ref b),some (.ref tl),v2,some (.ref fu),some (.ref st),some (.ref wh),some (.int many),some (.int 2),some (.int j),some (.ref t)] H'') :
  Af ⟨c,n+4,true⟩ Eu QN QR EE [some (.ref b),some (.ref tl),v2,some (.ref fu),some (.ref st),some (.ref wh),some (.int many),some (.int 2),some (.int j),some (.ref t)] H':=by
 obtain⟨es,ep,hE,hf,hs,W,ne,nf,ks,nn,hzz⟩:=A;have hM:c.P.meths=BK.meths:=by refine rl G.hP ?_;rfl
 have hxm:=mem_of_getElem? hx;have hrk:=hr.kp (.ext hE);have e1:(B.pacts.map (·.name)).take (a3+1)=(B.pacts.map (·.name)).take a3++[x.name]:=B0 (by refine rl (getElem?_map) (rl hx ?_);rfl);have hle:es.length<=60:=by
  have:=ks.length_le;rw[length_map,length_take,length_map,I.ln]at this;have:=R.len;lia
 refine e11 W.at_ λepw hwh=>Ab λK nx=>?_;dsimp only[A7];dsimp only[Am,AQ,AT,Ar,Aq,Ad,getElem?_cons_succ,Aw,AD,Int.reduceBEq,Az,Bool.false_eq_true,↓dreduceIte];show Af _ [_] _ _ _ _ _;refine Ab λK2 nx2=>?_;dsimp only[A7];dsimp only[Ar,Aq,Ad,getElem?_cons_succ,Aw,AD,Int.reduceBEq,Az,Bool.false_eq_true,↓dreduceIte];show Af _ [_] _ _ _ _ _;refine Ab λK3 nx3=>?_;dsimp only[A7];dsimp only[Am,AQ,AT,Ar,Av,Aq,Ad,getElem?_cons_succ,Aw,C7,Ds,A1,Al,An,AD,Int.reduceBEq,Az,↓dreduceIte];refine rl Fj (rl hwh ⟨by unfold wD;refine rl (length_map ..) ?_;exact lt_of_le_of_lt hle (by decide),?_⟩);refine El (hE _ _ htl) (le_trans hxs (by decide))<|rl Ds (rl (show(wD es).length=es.length from length_map _) ⟨N0 hle,⟨N0 hm,?_⟩⟩);dsimp only[Bc,Az];have hks:(es.map (·.1)).Sublist ((B.pacts.map (·.name)).take (a3+1)):=by refine rl e1 ?_;exact ks.trans (List.sublist_append_left _ _)
 by_cases hc:((es.length:Int)*(xs.length:Int)<(many:Int)*((j:Int)+1))
 ·refine rl (decide_eq_true hc)<|rl (if_pos rfl)<|Ab λK4 nx4=>?_;dsimp only[At];refine Db hM (by decide) (by decide) (hE _ _ hb) rfl<|rl Al (C' (r:=x.rd) rfl hrk (rl An (Q3 (n:=n) G R I hg (hE _ _ hb) hxm λz hz=>?_)));have E2:=Ext.refl.new (o:=.list (Ae (wB B gs x.name))) hz;have hz2:up H' z (.list (Ae (wB B gs x.name))) z=some (.list (Ae (wB B gs x.name))):=Ah;generalize up H' z (.list (Ae (wB B gs x.name)))=H2 at E2 hz2;have hwh2:=E2 _ _ hwh;dsimp only[AC,Ad];refine C' (r:=x.rd) rfl (hrk.kp (.ext E2)) ?_;show match H2 wh with|some (.dict _ es)=>_|_=>False
  refine rl hwh2 ?_;have hn:x.name∉es.map (·.1):=λh=>Qh (I.nd R) hx (ks.subset h);have hzw:z≠wh:=λe=>by rw[e,hwh]at hz;trivial
  refine⟨by refine rl (show(wD es).length=es.length from length_map _) ?_;exact le_trans hle (by decide),λep'=>nx4 _ _ (nx3 _ _ (nx2 _ _ (nx _ _ (q _ ⟨es++[(x.name,z)],ep,(hE.trans E2).own nn.2.2,?_,?_,⟨⟨ep',?_⟩,?_,?_,λe he=>?_,λe he=>?_⟩,ne,λe he=>?_,?_,nn,by refine rl (Ag (λe=>by rw[e,hwh]at hzz;exact AObj.noConfusion (Ak hzz.1))) ?_;exact⟨E2 _ _ hzz.1,hzz.2⟩⟩))))⟩
  ·refine rl (Ag (λe=>by rw[e,hwh]at hf;exact AObj.noConfusion (Ak hf))) ?_;exact E2 _ _ hf
  ·exact rl (Ag ne) (E2 _ _ hs)
  ·refine rl Ah (rl (PZ (rl It hn)) ?_);unfold wD;refine rl map_append ?_;rfl
  ·exact rl map_append<|nodup_append.mpr ⟨W.kn,nodup_cons.mpr ⟨not_mem_nil,nodup_nil⟩,λa ha b hb e=>hn (by rw[e,mem_singleton.mp hb]at ha;exact ha)⟩
  ·refine rl map_append<|nodup_append.mpr ⟨W.an,nodup_cons.mpr ⟨not_mem_nil,nodup_nil⟩,λa ha b hb e=>?_⟩;refine e12 (mem_map.mp ha) λe' he' z02=>?_;obtain rfl:=z02;have:=W.v e' he';rw[e,mem_singleton.mp hb,hz]at this;trivial
  ·rw[Ag]
   ·rcases mem_append.mp he with h|h
    ·exact E2 _ _ (W.v e h)
    ·exact rl (mem_singleton.mp h) hz2
   ·rcases mem_append.mp he with h|h
    ·exact λz=>by have:=W.v e h;rw[z,hwh]at this;exact AObj.noConfusion (Ak this)
    ·exact rl (mem_singleton.mp h) hzw
  ·rcases mem_append.mp he with h|h
   ·exact W.fr e h
   ·exact rl (mem_singleton.mp h) (hE.none hz)
  ·rcases mem_append.mp he with h|h
   ·exact nf e h
   ·refine rl (mem_singleton.mp h) ?_;exact λq=>by rw[show z=fu from q,hf]at hz;trivial
  ·exact rl e1 (rl map_append (ks.append (List.Sublist.refl _)))
 ·exact rl (decide_eq_false hc)<|nx3 _ _ (nx2 _ _ (nx _ _ (q _ ⟨es,ep,hE,hf,hs,W,ne,nf,hks,nn,hzz⟩)))
end
end
section
open L13
structure P3(p:List Int):Prop where
 nd:p.Nodup
 el:∀w∈p,w=0\/w=1\/w=2
 m0:(0:Int)∈p
 m1:(1:Int)∈p
noncomputable def dB(p:List Int):Bool:=decide p.Nodup&&p.all (λw=>w==0||w==1||w==2)&&p.contains 0&&p.contains 1
theorem P3.of(h:dB p=true):P3 p:=by
 unfold dB at h;rw[Bool.and_eq_true,Bool.and_eq_true,Bool.and_eq_true,decide_eq_true_eq,all_eq_true,contains_iff_mem,contains_iff_mem]at h;refine⟨h.1.1.1,λw hw=>?_,h.1.2,h.2⟩;have:=h.1.1.2 w hw;rw[Bool.or_eq_true,Bool.or_eq_true,beq_iff_eq,beq_iff_eq,beq_iff_eq,or_assoc]at this;exact this
noncomputable def IX(p:List Int):X:=.list (p.map λi=>.lit (.int i))
noncomputable def perms:List (List Int):=[[0,1,2],[1,2,0],[2,0,1],[2,1,0],[0,2,1],[1,0,2]]
theorem RM{l:List Int}(q:QL (l.map .int) H):Ay g (l.map λi=>.lit (.int i)) V QL E H:=by
 induction l generalizing QL with
 |nil=>exact q
 |cons i l ih=>exact rl map_cons (rl Al (rl Aq (ih q)))
theorem Xq{ls}(q:∀as H',Ext H H'->All2 (λa p=>H a=none/\H' a=some (.list (p.map .int))) as ls->QL (as.map .ref) H'):Ay g (ls.map IX) V QL E H:=by
 induction ls generalizing QL H with
 |nil=>exact q [] H .refl trivial
 |cons p ls ih=>
  refine rl Al (rl AB (RM ?_));intro a ha;exact ih λas H' E' h=>q (a::as) H' ((Ext.refl.new ha).trans E') ⟨⟨ha,E' _ _ Ah⟩,h.map λw=>⟨(Ext.refl.new ha).none w.1,w.2⟩⟩
theorem W'(hV:V[2]? =some (some (.int turn)))(q:∀p z H',Ext H H'->H z=none->H' z=some (.list (p.map .int))->P3 p->Q (.ref z) H'):Aj g (.sub (.list (perms.map IX)) (.bin .Mod (.var 2) (.lit (.int 6)))) V Q E H:=by
 refine rl Au (rl AB (Xq ?_));intro as H1 E1 h z hz;dsimp only[Av,Ad,Aq];refine rl hV ⟨by decide,?_⟩;have h0:=BD (x:=turn) (m:=6) (by decide);have h1:=BV (x:=turn) (m:=6) (by decide);have hl:as.length=6:=h.len;have E2:=Ext.refl.new (o:=.list (as.map .ref)) hz;have hlt:(turn.fmod 6).toNat<perms.length:=by show _<6;lia
 refine e12 (h.getR (getElem?_eq_getElem hlt)) λa ha hp=>?_;have:=Dt (H:=up H1 z (.list (as.map .ref))) (Q:=Q) (j:=(turn.fmod 6).toNat) (v:=.ref a) Ah (by refine rl (getElem?_map ..) (rl (ha ..) ?_);rfl) (by refine rl (length_map ..) (rl (hl ..) ?_);decide) (q _ a _ (E1.trans E2) hp.1 (E2 _ _ hp.2) (P3.of ((by decide +kernel:∀p∈perms,dB p=true) _ (List.getElem_mem hlt))));rw[toNat_of_nonneg h0]at this;exact this
inductive Ai(A:Nat->Ac->Prop)(v0 v1 v2 v3 v4 v5 v6 v7:Option AV)(k:Nat)(V':VV)(H':Ac):Prop
 |mk (p8 p9:Option AV) (hV:V'=[v0,v1,v2,v3,v4,v5,v6,v7,p8,p9]) (hA:A k H')
theorem LS(A:Nat->Ac->Prop)(hmd:g.md=true)(htl:H tl=some (.list (ts.map .ref)))(hR:Di H ts rs)(hA:A 0 H1)(hx:∀j H',A j H'->Ext H H')
  (step:∀j t r H' (K:VV->Ac->Prop),rs[j]? =some r->Rw H t r->A j H'->(∀H'',A (j+1) H''->K [v0,some (.ref tl),v2,v3,v4,v5,v6,v7,some (.int j),some (.ref t)] H'')->Af g Eu K QR EE [v0,some (.ref tl),v2,v3,v4,v5,v6,v7,some (.int j),some (.ref t)] H')
  (q:∀H' p8 p9,A rs.length H'->QN [v0,some (.ref tl),v2,v3,v4,v5,v6,v7,p8,p9] H') :
  A4 g (.fore 8 9 (.var 1) Eu) QN QR EE [v0,some (.ref tl),v2,v3,v4,v5,v6,v7,v8,v9] H1:=by
 refine⟨hmd,⟨tl,ts.map .ref,rfl,hx 0 H1 hA _ _ htl,Ai A v0 (some (.ref tl)) v2 v3 v4 v5 v6 v7,⟨_,_,rfl,hA⟩,?_⟩⟩;rintro k V' H' ⟨p8,p9,rfl,hA'⟩;refine⟨hx k H' hA' _ _ htl,λhk=>q H' _ _ (rl hR.len.symm (rl (Eq.symm (length_map (f:=AV.ref))) (rl hk.symm hA'))),λv hv=>?_⟩;rw[getElem?_map,map_eq_some_iff]at hv;refine e12 hv λt ht z02=>?_;obtain rfl:=z02;have hlt:k<rs.length:=by exact rl hR.len.symm ((AJ ht).1)
 refine e12 (hR.getR (getElem?_eq_getElem hlt)) λt' ht' hr=>?_;rw[ht]at ht';rw[<-Ak ht']at hr;exact step k t _ H' _ (getElem?_eq_getElem hlt) hr hA' λH'' hA''=>⟨_,_,rfl,hA''⟩
noncomputable def cn(p:List Int)(w:Int)(N:Nat):Nat:=if w∈p then N else 0
theorem Gu(h:w∉p):cn p w N=0:=if_neg h
theorem Gs:cn (p++[w]) w N=N:=if_pos (mem_append_right _ (.head _))
theorem DC(h:v≠w):cn (p++[w]) v N=cn p v N:=by
 unfold cn;have:v∈p++[w]↔v∈p:=by rw[mem_append,mem_singleton];exact⟨λz=>z.resolve_right h,.inl⟩
 simp only[this]
section
variable{H H1 H2:Ac}{B:Bk}{w:Str->List Str}{fu st wh zz z:Addr}{pl pl':List AV}{a1 a2 a3:Nat}
theorem As.ext(A:As H B w fu st wh zz pl a1 a2 a3 H1)(e:Ext H1 H2):As H B w fu st wh zz pl a1 a2 a3 H2:=let ⟨es,ep,hE,hf,hs,W,ne,nf,ks,nn,hz⟩:=A;⟨es,ep,hE.trans e,e _ _ hf,e _ _ hs,W.ext e,ne,nf,ks,nn,e _ _ hz.1,hz.2⟩
theorem As.x(A:As H B w fu st wh zz pl a1 a2 a3 H1):Ext H H1:=let ⟨_,_,hE,_,_,_,_,_,_,_,_⟩:=A;hE
theorem As.sw(A:As H B w fu st wh zz pl a1 a2 a3 H1)(e:Ext H1 H2)(h0:H1 z=none)(hz:H2 z=some (.list pl')):As H B w fu st wh z pl' a1 a2 a3 H2:=let ⟨es,ep,hE,hf,hs,W,ne,nf,ks,nn,_⟩:=A;⟨es,ep,hE.trans e,e _ _ hf,e _ _ hs,W.ext e,ne,nf,ks,nn,hz,λq=>by rw[q,hf]at h0;trivial⟩
theorem As.at(A:As H B w fu st wh zz pl a1 a2 a3 H1):H1 zz=some (.list pl):=let ⟨_,_,_,_,_,_,_,_,_,_,hz⟩:=A;hz.1
end
inductive Ao(H:Ac)(B:Bk)(w:Str->List Str)(b tl fu st wh z:Addr)(v2 v6:Option AV)(p:List Int)(k:Nat)(V':VV)(H':Ac):Prop
 |mk (p7 p8 p9:Option AV) (hV:V'=[some (.ref b),some (.ref tl),v2,some (.ref fu),some (.ref st),some (.ref wh),v6,p7,p8,p9]) (A:As H B w fu st wh z (p.map .int) (cn (p.take k) 0 B.pacts.length) (cn (p.take k) 1 B.pacts.length) (cn (p.take k) 2 B.pacts.length) H')
section
variable(G:Gd c L13.P)
theorem Iv.at(I:Iv pur rs B){j:Nat}(h:rs[j]? =some r):∃x,B.pacts[j]? =some x/\x.rd=r:=by
 rw[<-I.kp,getElem?_map,map_eq_some_iff]at h;exact h
include G
theorem Wu(R:Rok pur rs)(I:Iv pur rs B)(hg:Grt (AG B.pacts) (AX B) (Bv B.pacts) gs)(hb:H b=some (.book B))(htl:H tl=some (.list (ts.map .ref)))(hR:Di H ts rs)
  (q:∀t fu st wh es ep H',Ext H H'->H' t=some (.tuple [.ref fu,.ref st,.ref wh])->H' fu=some (.list (Ae (AG B.pacts)))->H' st=some (.dict ep (B8 (Bn B.pacts)))->WhyAt H H' wh es (wB B gs)->(∀e∈es,e.1∈B.pacts.map (·.name))->(∀e∈es,e.2≠fu)->es.length<=60->H fu=none->Q (.ref t) H'):CallOK c (n+5) true "_law_asked" [.ref b,.ref tl,.int turn] Q E H:=by
 have hxl:(ts.map AV.ref).length<=60:=by exact rl (length_map ..) (rl (hR.len ..) R.len)
 refine G.call (F:=L13.ZK) rfl rfl ?_;show Af _ _ _ _ _ [some (.ref b),some (.ref tl),some (.int turn),none,none,none,none,none,none,none] _;refine Ab λK nx=>?_;dsimp only[At,AN,Al,An,AB,Bg];intro fu hfu st hst wh hwh t0 ht0;dsimp only[QU];refine⟨rfl,?_⟩;show match up _ t0 (.tuple _) t0 with|some (.tuple xs)=>_|some (.list xs)=>_|_=>False
 refine rl Ah ⟨rfl,nx _ _ ?_⟩;show Af _ _ _ _ _ [some (.ref b),some (.ref tl),some (.int turn),some (.ref fu),some (.ref st),some (.ref wh),none,none,none,none] _;have A0:As H B (wB B gs) fu st wh tl (ts.map .ref) (cn [] 0 B.pacts.length) (cn [] 1 B.pacts.length) (cn [] 2 B.pacts.length) (up (up (up (up H fu (.list [])) st (.dict 0 [])) wh (.dict 0 [])) t0 (.tuple [.ref fu,.ref st,.ref wh])):=by
  have E1:=Ext.refl.new (o:=.list []) hfu;have E2:=Ext.refl.new (o:=.dict 0 []) hst;have E3:=Ext.refl.new (o:=.dict 0 []) hwh;have E4:=Ext.refl.new (o:=.tuple [AV.ref fu,.ref st,.ref wh]) ht0;have n2:H st=none:=E1.none hst;have n3:H wh=none:=(E1.trans E2).none hwh;exact⟨[],0,((E1.trans E2).trans E3).trans E4,E4 _ _ (E3 _ _ (E2 _ _ Ah)),E4 _ _ (E3 _ _ Ah),⟨⟨0,E4 _ _ Ah⟩,nodup_nil,nodup_nil,(λe he=>by trivial),λe he=>by trivial⟩,λz=>by rw[<-z,Ah]at hwh;trivial,(λe he=>by trivial),List.nil_sublist _,⟨hfu,n2,n3⟩,(((E1.trans E2).trans E3).trans E4) _ _ htl,Cd htl hfu⟩
 generalize up (up (up (up H fu (.list [])) st (.dict 0 [])) wh (.dict 0 [])) t0 (.tuple [.ref fu,.ref st,.ref wh])=H1 at A0;clear hfu hst hwh ht0;refine Ab λK nx=>?_;dsimp only[At,tv,length_cons,length_nil,Nat.reduceAdd,set_cons_succ,set_cons_zero,Au,A1,Al,An,Ar,Aq,Ad,getElem?_cons_succ,Aw,AB];intro z1 hz1;have E1:=Ext.refl.new (o:=.list [.int 16,.int 3]) hz1;have hz1':up H1 z1 (.list [.int 16,.int 3]) z1=some (.list [.int ((16:Nat):Int),.int ((3:Nat):Int)]):=Ah;generalize up H1 z1 (.list [.int 16,.int 3])=H2 at E1 hz1';have A2:=A0.ext E1;refine El (A2.x _ _ htl) (le_trans hxl (by decide)) ?_;dsimp only[Bw,Ka];obtain⟨many,hm,hsub⟩:∃m:Nat,m<=60/\∀Q:AV->Ac->Prop,Q (.int m) H2->A8 (.ref z1) (.int (if decide ((10:Int)<((ts.map AV.ref).length:Nat))=true then 1 else 0)) Q H2:=by
  by_cases h:decide ((10:Int)<((ts.map AV.ref).length:Nat))=true
  ·exact⟨3,by decide,λQ q=>by exact rl (if_pos h) (Dt (j:=1) hz1' rfl (show 2<=1000 by decide) q)⟩
  ·exact⟨16,by decide,λQ q=>by refine rl (if_neg h) ?_;exact Dt (j:=0) hz1' rfl (show 2<=1000 by decide) q⟩
 refine hsub _ ⟨by decide,nx _ _ ?_⟩;clear hsub hz1' hz1 E1 A0;refine Ab λK nx=>⟨rfl,W' (turn:=turn) rfl λp z H3 E3 hz0 hz p3=>?_⟩
 have A3:=A2.sw E3 hz0 hz;refine CD (xs:=p.map .int) (Bu hz) (Ao H B (wB B gs) b tl fu st wh z (some (.int turn)) (some (.int many)) p) ⟨_,_,_,rfl,A3⟩ ?_;rintro J hJ k V' H' ⟨p7,p8,p9,rfl,A⟩;refine⟨A.at.trans hz.symm,λhk=>nx _ _ ?_,λy hy=>?_⟩
 ·rw[hk,length_map,take_length,show cn p 0 B.pacts.length=B.pacts.length from if_pos p3.m0,show cn p 1 B.pacts.length=B.pacts.length from if_pos p3.m1]at A;obtain⟨es,ep,hE,hf,hs,W,ne,nf,ks,nn,_⟩:=A;rw[take_length]at hf hs;intro t ht;have E5:=Ext.refl.new (o:=.tuple [AV.ref fu,.ref st,.ref wh]) ht;refine q t fu st wh es ep _ (hE.trans E5) Ah (E5 _ _ hf) (E5 _ _ hs) (W.ext E5) (λe he=>mem_of_mem_take (ks.subset (mem_map_of_mem he))) nf ?_ nn.1;have:=ks.length_le;rw[length_map,length_take,length_map,I.ln]at this;have:=R.len;lia
 ·rw[getElem?_map,map_eq_some_iff]at hy;refine e12 hy λw hw z12=>?_;obtain rfl:=z12;have hnk:w∉p.take k:=λh=>by
   have:=(nodup_append.mp (show(p.take k++[w]).Nodup by refine rl (Eq.symm (B0 hw)) ?_;exact p3.nd.sublist (take_sublist _ _))).2.2 w h w (.head _);exact this rfl
  have hJ':=λV H=>hJ (k+1) V H;refine⟨show 7<10 by decide,?_⟩;refine Ab λK nx=>?_;have hlr:B.pacts.length=rs.length:=I.ln;have d10:(1:Int)≠0:=by decide
  have d20:(2:Int)≠0:=by decide
  have d21:(2:Int)≠1:=by decide
  rcases p3.el w (mem_of_getElem? hw)with e|e|e
  ·rw[e]at hnk hw⊢;rw[Gu hnk]at A;refine LS (λj H'=>As H B (wB B gs) fu st wh z (p.map .int) j (cn (p.take k) 1 B.pacts.length) (cn (p.take k) 2 B.pacts.length) H') rfl htl hR A (λj H' A=>A.x) (λj t r H' K hr w A hK=>?_) λH' p8 p9 A=>nx _ _ (hJ' _ _ ⟨_,_,_,rfl,?_⟩)
   ·exact e12 (I.at hr) λx hx e=>MR G R I hb hx (e▸w) A hK
   ·exact rl (B0 hw) (rl Gs (rl (DC d10) (rl (DC d20) (rl hlr (hlr▸A)))))
  ·rw[e]at hnk hw⊢;rw[Gu hnk]at A;refine LS (λj H'=>As H B (wB B gs) fu st wh z (p.map .int) (cn (p.take k) 0 B.pacts.length) j (cn (p.take k) 2 B.pacts.length) H') rfl htl hR A (λj H' A=>A.x) (λj t r H' K hr w A hK=>?_) λH' p8 p9 A=>nx _ _ (hJ' _ _ ⟨_,_,_,rfl,?_⟩)
   ·exact e12 (I.at hr) λx hx e=>MS G R I hb hx (e▸w) A hK
   ·exact rl (B0 hw) (rl Gs (rl (DC d10.symm) (rl (DC d21) (rl hlr (hlr▸A)))))
  ·rw[e]at hnk hw⊢;rw[Gu hnk]at A;refine LS (λj H'=>As H B (wB B gs) fu st wh z (p.map .int) (cn (p.take k) 0 B.pacts.length) (cn (p.take k) 1 B.pacts.length) j H') rfl htl hR A (λj H' A=>A.x) (λj t r H' K hr w A hK=>?_) λH' p8 p9 A=>nx _ _ (hJ' _ _ ⟨_,_,_,rfl,?_⟩)
   ·exact e12 (I.at hr) λx hx e=>MT G R I hg hb htl hxl hx (e▸w) A hm hK
   ·exact rl (B0 hw) (rl Gs (rl (DC d20.symm) (rl (DC d21.symm) (rl hlr (hlr▸A)))))
end
end
section
open L13
theorem PairsL.ext(h:PairsL H xs es)(e:Ext H H'):PairsL H' xs es:=by
 induction h with
 |nil=>exact .nil
 |cons h _ ih=>exact .cons (e _ _ h) ih
theorem PairsL.snoc{H:Ac}{xs:List AV}{es:List (Str×AV)}{T}{k}{v}(h:PairsL H xs es)(hT:H T=some (.tuple [.str k,v])):PairsL H (xs++[.ref T]) (es++[(k,v)]):=by
 induction h with
 |nil=>exact .cons hT .nil
 |cons h _ ih=>exact .cons h ih
theorem PairsL.len(h:PairsL H xs es):xs.length=es.length:=by
 induction h with
 |nil=>rfl
 |cons h _ ih=>exact congrArg Nat.succ ih
theorem Mq{g:Gx}{V:VV}{Q:AV->Ac->Prop}{H:Ac}{e1 e2:X}{a:Addr}{xs:List AV}{stp:AV->(Option AV->Ac->Prop)->Ac->Prop}(A:Nat->List (Str×AV)->Ac->Prop)(hmd:g.md=true)(hi:B6 H (.ref a)=some xs)(hl:xs.length<=1000)(hA:A 0 [] H)(hs:∀k es H' H'',A k es H'->Ext H' H''->A k es H'')(nk:∀es H',A xs.length es H'->(es.map (·.1)).Nodup)
  (hst:∀x nx H',Aj g (.tuple [e1,e2]) (V++[some x]) (λy H=>nx (some y) H) (λ_ _=>False) H'->stp x nx H')
  (step:∀k x es H',xs[k]? =some x->Ext H H'->A k es H'->∀K:AV->AV->Ac->Prop,(∀s v H'',Ext H' H''->A (k+1) (es++[(s,v)]) H''->K (.str s) v H'')->Aj g e1 (V++[some x]) (λu H1=>Aj g e2 (V++[some x]) (λv H2=>K u v H2) (λ_ _=>False) H1) (λ_ _=>False) H')
  (q:∀z ep es H',Ext H H'->H z=none->A xs.length es H'->H' z=some (.dict ep es)->Q (.ref z) H') :
  Kj (λv H=>BS g.md .dict [v] Q H) stp (.ref a) H:=by
 refine⟨xs,hi,le_trans hl (by decide),λk acc H'=>Ext H H'/\∃es,es.length=k/\PairsL H' acc es/\A k es H',⟨.refl,[],rfl,.nil,hA⟩,?_⟩;rintro k acc H' ⟨hE,es,hk,hp,hA'⟩;refine⟨?_,λhk' z hz=>?_,λx hx=>hst _ _ _ ?_⟩
 ·show H' a=H a;cases h:H a with
  |none=>unfold B6 at hi;dsimp only at hi;rw[h]at hi;trivial
  |some o=>exact hE _ _ h
 ·rw[hk']at hA';have E1:=Ext.refl.new (o:=.list acc) hz;refine⟨hmd,?_⟩;show match up H' z (.list acc) z with|some (.list xs)=>_|_=>False
  refine rl Ah ⟨es,by refine rl hp.len (rl hk (rl hk' ?_));exact le_trans hl (by decide),hp.ext E1,nk es H' hA',λz' ep hz'=>?_⟩;have E2:=E1.new (o:=.dict ep es) hz';exact q z' ep es _ (hE.trans E2) ((hE.trans E1).none hz') (hs _ _ _ _ hA' E2) Ah
 ·refine rl AN (rl Al (step k x es H' hx hE hA' (λu v H2=>∀T,H2 T=none->_) λs v H2 E2 A2 T hT=>?_));have E3:=E2.new (o:=.tuple [.str s,v]) hT;exact⟨hE.trans E3,es++[(s,v)],by refine rl length_append (rl hk ?_);rfl,(hp.ext E3).snoc Ah,hs _ _ _ _ A2 (Ext.refl.new hT)⟩
end
section
open L13
section
variable{g:Gx}{V:VV}{Q:AV->Ac->Prop}{E:String->Ac->Prop}{H0 H:Ac}{ts:List Addr}{rs:List Rd}{pur:List Str}
inductive Nz(H0 H:Ac)(rs:List Rd)(k:Nat)(es:List (Str×AV))(H':Ac):Prop
 |mk (e0:List (Str×Addr)) (he:es=wD e0) (ha:All2 (λe (r:Rd)=>e.1=r.nm/\H0 e.2=some (.list (Ae r.ns))) e0 (rs.take k)) (hE:Ext H H')
theorem Nz.keys{k:Nat}{e0:List (Str×Addr)}(ha:All2 (λe (r:Rd)=>e.1=r.nm/\H0 e.2=some (.list (Ae r.ns))) e0 (rs.take k)):e0.map (·.1)=(rs.take k).map (·.nm):=ha.ind (C:=λe0 l=>e0.map (·.1)=l.map (·.nm)) rfl λa b as bs h ih=>by exact rl map_cons (rl map_cons (rl h.1 (rl ih rfl)))
theorem Iv.nds(R:Rok pur rs)(I:Iv pur rs B){j:Nat}(h:rs[j]? =some r):AX B r.nm=r.ns:=by
 refine e12 (I.at h) λx hx z02=>?_;obtain rfl:=z02;exact(IM (I.nd R) (mem_of_getElem? hx)).2
theorem Xj(hmd:g.md=true)(hV:V[2]? =some (some (.ref tl)))(hl:V.length=15)(htl:H tl=some (.list (ts.map .ref)))(hR:Di H0 ts rs)(K0:Kp H0 H)(R:Rok pur rs)(I:Iv pur rs B)(q:∀z H',Ext H H'->H z=none->NdIn H0 H' z (AX B) (B.pacts.map (·.name))->Q (.ref z) H') :
  Aj g (.prim .dict [.comp (.tuple [(.sub (.var 15) (.lit (.int 0))),(.sub (.var 15) (.lit (.int 3)))]) 1 false (.var 2) none]) V Q E H:=by
 have hlr:=hR.len;have h15:∀x:AV,(V++[some x])[15]? =some (some x):=λx=>by refine rl (getElem?_append_right (rl hl (le_refl _))) (rl hl ?_);rfl
 dsimp only[A1,Al,An,Bl,Ad];refine rl hV ⟨hmd,Mq (V:=V) (e1:=.sub (.var 15) (.lit (.int 0))) (e2:=.sub (.var 15) (.lit (.int 3))) (Nz H0 H rs) hmd (Bu htl) (by exact rl (length_map ..) (rl (hlr ..) (le_trans R.len (by decide)))) ⟨[],rfl,trivial,.refl⟩ (λk es H' H'' h e=>let ⟨a,b,c,d⟩:=h;⟨a,b,c,d.trans e⟩) (λes H' h=>?_) (λx nx H' h=>h) (λk x es H' hx hE h K hK=>?_) λz ep es H' hE hz h hd=>q z H' hE hz ?_⟩
 ·obtain⟨e0,rfl,ha,_⟩:=h;exact rl It (rl (Nz.keys ha) (R.nd.sublist ((take_sublist _ _).map _)))
 ·obtain⟨e0,rfl,ha,_⟩:=h;rw[getElem?_map,map_eq_some_iff]at hx;refine e12 hx λt ht z32=>?_;obtain rfl:=z32;have hlt:k<rs.length:=by exact rl hlr.symm ((AJ ht).1)
  refine e12 (hR.getR (getElem?_eq_getElem hlt)) λt' ht' hr=>?_;rw[ht]at ht';rw[<-Ak ht']at hr;generalize hrk:rs[k]=r at hr;have hrk':rs[k]? =some r:=by exact rl (getElem?_eq_getElem hlt) (rl hrk rfl)
  refine C' (r:=r) (h15 _) (hr.kp (K0.trans (.ext hE))) ?_;obtain⟨pl,gl,nl,htu,_,_,hn⟩:=hr;refine rl Au (rl Ad (rl (h15 _) (FH (j:=3) (hE _ _ (K0 _ _ rfl htu)) rfl (show 5<=1000 by decide) (hK _ _ _ .refl ⟨e0++[(r.nm,nl)],by unfold wD;refine rl map_append ?_;rfl,?_,hE⟩))));exact rl (B0 hrk') (ha.snoc ⟨rfl,hn⟩)
 ·obtain⟨e0,rfl,ha,_⟩:=h;rw[length_map,hlr,take_length]at ha;have hkeys:e0.map (·.1)=rs.map (·.nm):=by have:=Nz.keys (k:=rs.length) (rl take_length ha);rw[take_length]at this;exact this
  refine⟨ep,wD e0,hd,λx hx=>?_⟩;rw[I.names]at hx;refine e12 (mem_map.mp hx) λr hr z52=>?_;obtain rfl:=z52;obtain⟨j,hj,e⟩:=mem_iff_getElem.mp hr;have hrj:rs[j]? =some r:=by exact rl (getElem?_eq_getElem hj) (rl e rfl)
  refine e13 (ha.getR hrj) λe1 he1 h1 h2=>⟨e1.2,by refine rl h1.symm ?_;exact QI (by refine rl hkeys ?_;exact R.nd) he1,by refine rl (I.nds R hrj) ?_;exact h2,by refine rl (I.nds R hrj) ?_;exact le_trans (R.ok r hr).l3 (by decide)⟩
end
theorem N8(nd:(ps.map (·.name)).Nodup)(h:x∈ps):lk (Bn ps) x.name=some x.state:=NA (rl stL_keys nd) (mem_map.mpr ⟨x,h,rfl⟩)
theorem Mw{Q:AV->Ac->Prop}{H:Ac}{st}(nd:(ps.map (·.name)).Nodup)(h:x∈ps)(hs:H st=some (.dict ep (B8 (Bn ps))))(q:Q (.str x.state.str) H):A8 (.ref st) (.str x.name) Q H:=by
 exact rl CU (rl hs ⟨_,by refine rl Gi (rl (N8 nd h) ?_);rfl,q⟩)
theorem Ql{g:Gx}{V:VV}{Q:AV->Ac->Prop}{E}{H}{st fo}{ep}{ps}{x}{gs}{i j k}(hi:V[i]? =some (some (.ref st)))(hj:V[j]? =some (some (.str x.name)))(hk:V[k]? =some (some (.ref fo)))(nd:(ps.map (·.name)).Nodup)(h:x∈ps)(hs:H st=some (.dict ep (B8 (Bn ps))))(hf:H fo=some (.list (Ae gs)))
  (q:∀H',Ext H H'->Q (.str (Bm gs x).state.str) H'):Aj g (.sub (.list [(.sub (.var i) (.var j)),(.lit (.str (ofString "done")))]) (.prim .int [(.cmp .In (.var j) (.var k))])) V Q E H:=by
 dsimp only[Au,AB,Al,An,Ad,Aq,A1,Ar];refine rl hi (rl hj (Mw nd h hs ?_));intro z hz;refine rl hk ?_;have E1:=Ext.refl.new (o:=.list [.str x.state.str,.str (ofString "done")]) hz;have hz1:up H z (.list [.str x.state.str,.str (ofString "done")]) z=some (.list [.str x.state.str,.str (ofString "done")]):=Ah;generalize up H z (.list [.str x.state.str,.str (ofString "done")])=H1 at E1 hz1;have qq:=q H1 E1;dsimp only[AS];refine GF (E1 _ _ hf) ?_;unfold Bm at qq;by_cases hm:x.name∈gs
 ·refine rl (decide_eq_true hm) ?_;rw[if_pos hm]at qq;exact Dt (j:=1) hz1 rfl (show 2<=1000 by decide) qq
 ·refine rl (decide_eq_false hm) ?_;rw[if_neg hm]at qq;exact Dt (j:=0) hz1 rfl (show 2<=1000 by decide) qq
end
section
open L13
theorem WF{l:List Str}(nd:l.Nodup):((l.drop k++l.take k).take 5).Nodup:=by
 refine List.Nodup.sublist (take_sublist _ _) ?_;rw[<-take_append_drop k l]at nd;exact Br (nodup_append.mp nd) λa b c=>nodup_append.mpr ⟨b,a,λx hx y hy e=>c y hy x hx e.symm⟩
theorem Vs{l:List Str}(h:x∈(l.drop k++l.take k).take 5):x∈l:=by
 rcases mem_append.mp (mem_of_mem_take h)with h|h
 ·exact List.mem_of_mem_drop h
 ·exact mem_of_mem_take h
inductive Wz(H:Ac)(w:Str->List Str)(ws:List Str)(k:Nat)(es:List (Str×AV))(H':Ac):Prop
 |mk (e0:List (Str×Addr)) (he:es=wD e0) (hk:e0.map (·.1)=ws.take k) (an:(e0.map (·.2)).Nodup) (v:∀e∈e0,H' e.2=some (.list (Ae (w e.1)))) (fr:∀e∈e0,H e.2=none) (hE:Ext H H')
inductive Sz(H:Ac)(ps:List Pc)(k:Nat)(es:List (Str×AV))(H':Ac):Prop
 |mk (he:es=B8 (Bn (ps.take k))) (hE:Ext H H')
section
variable{c:Cx}(G:Gd c L13.P){n:Nat}{Q:AV->Ac->Prop}{E:String->Ac->Prop}{H:Ac}{b st fu fo nd:Addr}{B B':Bk}{pur gs g':List Str}{rs:List Rd}{turn:Int}{ep:Nat}{V:VV}
theorem Wf(hmd:g.md=true)(hV1:V[1]? =some (some (.ref st)))(hV3:V[3]? =some (some (.ref fo)))(hl:V.length=11)(nd:(B.pacts.map (·.name)).Nodup)(hlen:B.pacts.length<=60)(hs:H st=some (.dict ep (B8 (Bn B.pacts))))(hf:H fo=some (.list (Ae gs)))
  (q:∀z ep H',Ext H H'->H z=none->H' z=some (.dict ep (B8 (Bn (B.pacts.map (Bm gs)))))->Q (.ref z) H') :
  Aj g (.prim .dict [.comp (.tuple [(.var 11),(.sub (.list [(.sub (.var 1) (.var 11)),(.lit (.str (ofString "done")))]) (.prim .int [(.cmp .In (.var 11) (.var 3))]))]) 1 false (.var 1) none]) V Q E H:=by
 have h11:∀x:AV,(V++[some x])[11]? =some (some x):=λx=>by refine rl (getElem?_append_right (rl hl (le_refl _))) (rl hl ?_);rfl
 have hlt:∀{i:Nat} {x:AV} {v:Option AV},V[i]? =some v->(V++[some x])[i]? =some v:=λh=>by refine rl (getElem?_append_left (AJ h).1) ?_;exact h
 have hi:=JS hs;rw[Io,stL_keys]at hi;dsimp only[A1,Al,An,Bl,Ad];refine rl hV1 ⟨hmd,Mq (V:=V) (e1:=.var 11) (e2:=.sub (.list [(.sub (.var 1) (.var 11)),(.lit (.str (ofString "done")))]) (.prim .int [(.cmp .In (.var 11) (.var 3))])) (Sz H (B.pacts.map (Bm gs))) hmd hi (rl (AO ..) (rl (length_map ..) (le_trans hlen (by decide)))) ⟨rfl,.refl⟩ (λk es H' H'' h e=>let ⟨a,d⟩:=h;⟨a,d.trans e⟩) (λes H' h=>?_) (λx nx H' h=>h) (λk x es H' hx hE h K hK=>?_) λz ep es H' hE hz h hd=>q z ep H' hE hz ?_⟩
 ·obtain⟨rfl,_⟩:=h;exact rl Io (rl stL_keys (rl map_take (rl PM (nd.sublist (take_sublist _ _)))))
 ·obtain⟨rfl,_⟩:=h;refine e12 (Ff hx) λs z21 hsk=>?_;obtain rfl:=z21;rw[getElem?_map,map_eq_some_iff]at hsk;refine e12 hsk λy hy z32=>?_;obtain rfl:=z32;dsimp only[Ad];refine rl (h11 ..)<|Ql (x:=y) (hlt hV1) (h11 _) (hlt hV3) nd (mem_of_getElem? hy) (hE _ _ hs) (hE _ _ hf) λH2 E2=>hK _ _ _ E2 ⟨rl (B0 (by refine rl (getElem?_map) (rl hy ?_);rfl)) ?_,hE.trans E2⟩;unfold Bn B8;exact rl map_append (rl map_append (congrArg (λn=>_++[(n,AV.str (Bm gs y).state.str)]) dnM_name.symm))
 ·obtain⟨e,_⟩:=h;rw[AO,length_map,<-length_map (f:=Bm gs),take_length]at e;exact rl e.symm hd
include G
set_option tactic.hygienic true in
theorem UL(R:Rok pur rs)(I:Iv pur rs B)(I':Iv pur rs B')(hB:B'.pacts=B.pacts.map (Bm gs))(hg':Grt (AG B'.pacts) (AX B') (Bv B'.pacts) g')(hb:H b=some (.book B'))(hs:H st=some (.dict ep (B8 (Bn B.pacts))))(hfu:H fu=some (.list (Ae (AG B.pacts))))(hf:H fo=some (.list (Ae gs)))(hN:NeedsAt H nd (AX B) (B.pacts.map (·.name)))
  (q:∀H',Ext H H'->Q (.bool true) H'):CallOK c (n+5) true "_law_why_behind" [.ref b,.ref st,.ref fu,.ref fo,.ref nd,.int turn] Q E H:=by
 have hM:c.P.meths=BK.meths:=by refine rl G.hP ?_;rfl
 have hbl:B.pacts.length<=60:=by refine rl I.ln ?_;exact R.len
 have hnn:B'.pacts.map (·.name)=B.pacts.map (·.name):=by exact rl hB (rl PM rfl)
 have hff:AG B'.pacts=(AG B.pacts).filter λs=>!decide (s∈gs):=by refine rl hB ?_;exact dn_full
 refine G.call (F:=L13.ZL) rfl rfl ?_;show Af _ _ _ _ _ [some (.ref b),some (.ref st),some (.ref fu),some (.ref fo),some (.ref nd),some (.int turn),none,none,none,none,none] _;refine Ab λK nx=>?_;dsimp only[At];refine Wf rfl rfl rfl rfl (I.nd R) hbl hs hf λla ep1 H1 E1 _ hla=>⟨show 6<11 by decide,nx _ _ ?_⟩
 rw[<-hB]at hla;refine Ab λK nx=>?_;dsimp only[At,A6,Al,An,Ad];show Aj _ (.comp _ _ _ _ _) [some (.ref b),some (.ref st),some (.ref fu),some (.ref fo),some (.ref nd),some (.int turn),some (.ref la),none,none,none,none] _ _ _;refine Ij (a:=fu) rfl rfl (λs=>!decide (s∈gs)) (le_trans Fe (le_trans hbl (by decide))) (λQ' h=>h) (Bu (E1 _ _ hfu)) (λs _ H2 E2 K2 hK2=>?_) λzf H2 E2 _ hzf=>?_
 ·dsimp only[cons_append,nil_append,Ar,C1,Ad,getElem?_cons_succ,Aw];refine GF (no:=true) (E2 _ _ (E1 _ _ hf)) ?_;have:=hK2 H2 .refl;cases hc:decide (s∈gs)<;>rw[hc]at this<;>exact this
 rw[<-hff]at hzf;have E02:=E1.trans E2;have hk':(Bn B'.pacts).map (·.1)=B.pacts.map (·.name):=by exact rl stL_keys (rl hnn rfl)
 have hN':NeedsAt H (nd) (AX B') ((Bn B'.pacts).map (·.1)):=by refine rl hk' (rl (MO hB) ?_);exact hN
 have h8:∀x∈(Bn B'.pacts).map (·.1),(AX B' x).length<=8:=λx hx=>I'.nl R (by refine rl stL_keys.symm ?_;exact hx);show CallOK _ _ _ _ [.ref la,.ref zf,.ref nd] _ _ _;refine Px (n:=n+3) G (E2 _ _ hla) (by refine rl (stL_keys ..) ?_;exact I'.nd R) hzf (λx hx=>by refine rl (stL_keys ..) ?_;exact ED hx) (I4 (I'.nd R)) (hN'.ext E02) h8 (by unfold Bn;refine rl (length_map ..) (rl (I'.ln ..) ?_);exact R.len) λsh H3 d E3 _ hS D=>⟨show 7<11 by decide,nx _ _ ?_⟩
 have E03:=E02.trans E3;have hdn:C_ (Bn B'.pacts)=Bv B'.pacts:=done_st.symm;have hdm:Ew (Bn B'.pacts) (AX B')=C8 B':=by unfold Ew C8;exact rl stL_keys rfl
 rw[hdn,hdm]at D;clear hla hzf E1 E2 E02 E3;refine Ab λK nx=>?_;dsimp only[At,A1,Al,An,Ad];show BS _ .list [.ref st] _ _;refine rl Gc (rl (E03 _ _ hs) ⟨rfl,by unfold B8 Bn;refine rl (length_map ..) (rl (length_map ..) ?_);exact le_trans hbl (by decide),λnz hnz=>⟨show 8<11 by decide,nx _ _ ?_⟩⟩);have e4:((B8 (Bn B.pacts)).map λe=>AV.str e.1)=Ae (B.pacts.map (·.name)):=by rw[<-stL_keys,<-Io];unfold Ae;rw[map_map];rfl
 refine rl e4 ?_;have E4:=E03.new (o:=.list (Ae (B.pacts.map (·.name)))) hnz;have hS4:=hS.ext (Ext.refl.new (o:=.list (Ae (B.pacts.map (·.name)))) hnz);have hnz4:up H3 nz (.list (Ae (B.pacts.map (·.name)))) nz=some (.list (Ae (B.pacts.map (·.name)))):=Ah;generalize up H3 nz (.list (Ae (B.pacts.map (·.name))))=H4 at E4 hS4 hnz4;clear e4 hnz hS E03;have ndN:=I.nd R;have hNl:(B.pacts.map (·.name)).length<=60:=by refine rl (length_map ..) ?_;exact hbl
 have hN0:NdIn H H4 nd (AX B) (B.pacts.map (·.name)):=by
  exact e22 hN λep' es' h1 h2=>⟨ep',es',E4 _ _ h1,h2⟩
 refine Ab λK nx=>?_;dsimp only[set_cons_succ,set_cons_zero,At,tv,length_cons,length_nil,Nat.reduceAdd,Av,A1,Al,An,Ad,getElem?_cons_succ,Aw,Aq];refine JX hnz4 (le_trans hNl (by decide))<|rl SG ⟨rfl,?_⟩;obtain⟨m,hm,m1,m2⟩:∃m:Int,(if(1:Int)<((B.pacts.map (·.name)).length:Nat) then(((B.pacts.map (·.name)).length:Nat):Int) else 1)=m/\1<=m/\(((B.pacts.map (·.name)).length:Nat):Int)+1 >= m:=⟨_,rfl,by split<;>lia,by split<;>lia⟩
 refine rl hm (rl B7 ?_);have m3:m<=(B.pacts.map (·.name)).length\/(m=1/\(B.pacts.map (·.name)).length=0):=by refine rl hm.symm ?_;split<;>lia
 refine⟨by exact Int.ne_of_gt (by assumption),by decide,nx _ _ ?_⟩;have a0:=BD (x:=turn) (m:=m) (by assumption);have a1:=BV (x:=turn) (m:=m) (by assumption);obtain⟨k,hk,hkl⟩:∃k:Nat,turn.fmod m=(k:Int)/\k<=(B.pacts.map (·.name)).length:=⟨(turn.fmod m).toNat,HD a0,Ky m3 a1⟩
 refine rl hk ?_;clear hm m1 m2 m3 a0 a1 hk;have hwn:∀s∈B.pacts.map (·.name),∃y∈B'.pacts,y.name=s:=λs h=>by rw[<-hnn]at h;refine e12 (mem_map.mp h) λy hy e=>?_;exact⟨y,hy,e⟩
 generalize B.pacts.map (·.name)=ws at*;refine Ab λK nx=>?_;dsimp only[At,A1,Al,An,Bl,Bf,Av,Do,Df,Ad,Aq];refine⟨rfl,?_⟩;show EK (.ref nz) (some (.int k)) none none _ _;refine Ic (l:=some (k:Int)) (u:=none) (t:=none) hnz4 rfl rfl rfl (by decide) (by refine rl AO ?_;exact le_trans hNl (by decide)) λz1 H5 E5 _ hz1=>?_;refine Ic (l:=none) (u:=some (k:Int)) (t:=none) (E5 _ _ hnz4) rfl rfl rfl (by decide) (by refine rl AO ?_;exact le_trans hNl (by decide)) λz2 H6 E6 _ hz2=>?_;rw[OI (by refine rl AO ?_;exact hkl)]at hz1;rw[LE]at hz2;refine GM (E6 _ _ hz1) hz2 (by refine rl length_drop (rl length_take (rl AO ?_));exact Nk hNl (by decide)) λz3 hz3=>?_;have E7:=Ext.refl.new (o:=.list ((Ae ws).drop k++(Ae ws).take k)) hz3;have hz7:up H6 z3 (.list ((Ae ws).drop k++(Ae ws).take k)) z3=some (.list (Ae (ws.drop k++ws.take k))):=by rw[Ah];unfold Ae;rw[map_append,List.map_drop,map_take]
 generalize up H6 z3 (.list ((Ae ws).drop k++(Ae ws).take k))=H7 at E7 hz7;refine Ic (lo:=none) (hi:=some (.int 5)) (st:=none) (l:=none) (u:=some ((5:Nat):Int)) (t:=none) hz7 rfl rfl rfl (by decide) (by refine rl AO (rl length_append (rl length_drop (rl length_take ?_)));exact Nk hNl (by decide)) λz4 H8 E8 _ hz8=>?_;rw[LE]at hz8;have hz8:H8 z4=some (.list (Ae ((ws.drop k++ws.take k).take 5))):=by rw[hz8];unfold Ae;rw[map_take]
 have E48:=((E5.trans E6).trans E7).trans E8;have E08:=E4.trans E48;have nd5:=WF (k:=k) ndN;have mem5:∀x∈(ws.drop k++ws.take k).take 5,x∈ws:=λx hx=>Vs hx;have l5:((ws.drop k++ws.take k).take 5).length<=5:=by refine rl length_take ?_;exact Nat.min_le_left _ _
 have hS8:=hS4.ext E48;have hN8:=hN0.ext E48;clear hz1 hz2 hz3 hz7 E5 E6 E7 E8 E48 hS4 hN0 hnz4 E4 hkl;generalize(ws.drop k++ws.take k).take 5=w5 at*;refine Mq (g:=⟨c,n+4,true⟩) (V:=[some (.ref b),some (.ref st),some (.ref fu),some (.ref fo),some (.ref nd),some (.int turn),some (.ref la),some (.ref sh),some (.ref nz),some (.int k),none]) (e1:=.var 11) (e2:=.meth (.var 0) "why_not" [.var 11]) (Wz H8 (wB B' g') w5) rfl (Bu hz8) (by refine rl AO ?_;exact le_trans l5 (by decide)) ⟨[],rfl,rfl,nodup_nil,(λe he=>by trivial),(λe he=>by trivial),.refl⟩ (λk es H' H'' h e=>let ⟨a,b,c,d,v,f,h⟩:=h;⟨a,b,c,d,λx hx=>e _ _ (v x hx),f,h.trans e⟩) (λes H' h=>?_) (λx nx H' h=>h) (λk' x es H' hx hE h K hK=>?_) λwh epw es H9 hE9 hwh0 h hd=>?_
 ·obtain⟨e0,rfl,hk,_⟩:=h;refine rl It (rl hk ?_);exact nd5.sublist (take_sublist _ _)
 ·obtain⟨e0,rfl,hk,an,v,fr,_⟩:=h;refine e12 (Ff hx) λs z61 hsk=>?_;obtain rfl:=z61;refine e12 (hwn s (mem5 s (mem_of_getElem? hsk))) λy hy z72=>?_;obtain rfl:=z72;dsimp only[Ad];refine Db hM (by decide) (by decide) (hE _ _ (E08 _ _ hb)) rfl<|Q3 (n:=n) G R I' hg' (hE _ _ (E08 _ _ hb)) hy λz hz=>hK _ _ _ (Ext.refl.new hz) ⟨e0++[(y.name,z)],by unfold wD;refine rl map_append ?_;rfl,?_,?_,λe he=>?_,λe he=>?_,hE.new hz⟩
  ·refine rl (B0 hsk) (rl map_append (rl hk ?_));rfl
  ·refine rl map_append<|nodup_append.mpr ⟨an,nodup_cons.mpr ⟨not_mem_nil,nodup_nil⟩,λa ha b hb e=>?_⟩;refine e12 (mem_map.mp ha) λe' he' z82=>?_;obtain rfl:=z82;have:=v e' he';rw[e,mem_singleton.mp hb,hz]at this;trivial
  ·rcases mem_append.mp he with h|h
   ·exact CW (v e h) hz
   ·refine rl (mem_singleton.mp h) ?_;exact Ah
  ·rcases mem_append.mp he with h|h
   ·exact fr e h
   ·refine rl (mem_singleton.mp h) ?_;exact hE.none hz
 ·obtain⟨e0,rfl,hk,an,v,fr,_⟩:=h;rw[AO,take_length]at hk;refine⟨show 10<11 by decide,nx _ _ ?_⟩;dsimp only[BG,Bp,A6,Al,An,Ad];have E09:=E08.trans hE9;rw[<-MO hB]at hN8;refine Qi (n:=n+2) (H0:=H) (Hb:=H) (w:=wB B' g') G ⟨⟨epw,hd⟩,by refine rl hk ?_;exact nd5,an,v,λe he=>E08.none (fr e he)⟩ (.ext E09) (λe he a x _ hx=>Cd hx (E08.none (fr e he))) D (le_trans Fe (by refine rl I'.ln ?_;exact R.len)) (hS8.ext hE9) ((hN8.ext hE9).sub λx hx=>?_) (λe he l wo=>?_) (by refine rl (Eq.symm (length_map (f:=(·.1)))) (rl hk ?_);exact le_trans l5 (by decide)) λH10 K10 _=>q H10 (K10.ext0 E09 λe he=>E08.none (fr e he))
  ·refine rl hnn.symm ?_;exact ED hx
  ·have:e.1∈ws:=mem5 _ (by refine rl hk.symm ?_;exact mem_map_of_mem he);exact Q4 D (PF (I'.nd R)) (λx hx o ho=>LW (ED hx) ho) hg' (JB (by refine rl hnn ?_;exact this)) wo
end
end
section
open L13
inductive Fl(H:Ac)(v0 v1 v2 v3 v4 v5 v6 v7 v8 v9 v10 v13 v14:Option AV)(k:Nat)(V':VV)(H':Ac):Prop
 |mk (p11 p12:Option AV) (hV:V'=[v0,v1,v2,v3,v4,v5,v6,v7,v8,v9,v10,p11,p12,v13,v14]) (hH:H'=H)
inductive Fm(H:Ac)(v0 v1 v2 v3 v4 v5 v6 v7 v8 v9 v10 v12 v14:Option AV)(k:Nat)(V':VV)(H':Ac):Prop
 |mk (p11 p13:Option AV) (hV:V'=[v0,v1,v2,v3,v4,v5,v6,v7,v8,v9,v10,p11,v12,p13,v14]) (hE:Ext H H')
section
variable{g:Gx}{H:Ac}{QN:VV->Ac->Prop}{QR:AV->Ac->Prop}{EE:String->VV->Ac->Prop}{v0 v1 v2 v3 v4 v5 v7 v9 v11 v12 v13 v14:Option AV}{b st nd fo:Addr}{B B':Bk}{gs pur:List Str}{rs:List Rd}{ep:Nat}
theorem VT(hv:V[12]? =some (some (.str o)))(hv6:V[6]? =some (some (.ref st)))(hv10:V[10]? =some (some (.ref fo)))(nk:(B.pacts.map (·.name)).Nodup)(hs:H st=some (.dict ep (B8 (Bn B.pacts))))(hf:H fo=some (.list (Ae gs)))(ho:o∈gs\/o∈Bv B.pacts)(q:Q (.bool false) H) :
  Aj g (.ao true [(.cmp .NotIn (.var 12) (.var 10)),(.ao false [(.cmp .NotIn (.var 12) (.var 6)),(.cmp .NotEq (.sub (.var 6) (.var 12)) (.lit (.str (ofString "done"))))])]) V Q E H:=by
 dsimp only[Am,AQ,AT,Ar,Ad,Au,Aq];refine rl hv (rl hv6 (rl hv10 ?_));dsimp only[C1];refine GF (no:=true) hf ?_;dsimp only[Az];by_cases h1:o∈gs
 ·exact rl (decide_eq_true h1) q
 ·refine rl (decide_eq_false h1)<|rl (if_pos rfl) ?_;have e:lk (Bn B.pacts) o=some .dn:=(J_ (rl stL_keys nk)).mp (by have:=ho.resolve_left h1;rw[done_st]at this;exact this);refine Ik (no:=true) hs<|rl Gi (rl e (rl CU (rl hs ⟨.str Sta.dn.str,by refine rl Gi (rl e ?_);rfl,?_⟩)));dsimp only[Dd,bne];exact rl My q
theorem Uf(hmd:g.md=true)(nk:(B.pacts.map (·.name)).Nodup)(hs:H st=some (.dict ep (B8 (Bn B.pacts))))(hf:H fo=some (.list (Ae gs)))(hN:NeedsAt H nd (AX B) (B.pacts.map (·.name)))(Gr:Grt (AG B.pacts) (AX B) (Bv B.pacts) gs)
  (q:∀p11 p12,QN [v0,v1,v2,v3,v4,v5,some (.ref st),v7,some (.ref nd),v9,some (.ref fo),p11,p12,v13,v14] H) :
  A4 g (.for (.var 11) (.var 10) [.ite (.cmp .NotEq (.sub (.var 6) (.var 11)) (.lit (.str (ofString "open")))) [.ret (.lit (.bool false))] [],
  .for (.var 12) (.sub (.var 8) (.var 11)) [.ite (.ao true [(.cmp .NotIn (.var 12) (.var 10)),(.ao false [(.cmp .NotIn (.var 12) (.var 6)),(.cmp .NotEq (.sub (.var 6) (.var 12)) (.lit (.str (ofString "done"))))])]) [.ret (.lit (.bool false))] []]]) QN QR EE [v0,v1,v2,v3,v4,v5,some (.ref st),v7,some (.ref nd),v9,some (.ref fo),v11,v12,v13,v14] H:=by
 dsimp only[BX,Ad];refine⟨hmd,?_⟩;show Bq _ _ (.ref fo) _ _;refine Fk (Bu hf) (Fl H v0 v1 v2 v3 v4 v5 (some (.ref st)) v7 (some (.ref nd)) v9 (some (.ref fo)) v13 v14) ⟨_,_,rfl,rfl⟩ ?_;rintro I hI k V' H' ⟨p11,p12,rfl,rfl⟩;refine⟨rfl,λ_=>q _ _,λs hs'=>?_⟩;have hsg:=mem_of_getElem? hs';have hsf:=Gr.sub.subset hsg;refine e12 (mem_map.mp hsf) λx hx e=>Ap (mem_filter.mp hx) λhx1 hx2=>?_;have hso:x.state = .opn:=beq_iff_eq.mp (Bool.and_eq_true _ _▸hx2:_/\_).1;refine⟨show 11<15 by decide,?_⟩;refine Ab λK nx=>?_;dsimp only[A7,Ar,Au,Ad,Aq];show A8 (.ref st) (.str s) _ _;have:=Mw (Q:=λv H=>AA .NotEq v (.str (ofString "open")) (λv H=>BF v H λt=>if t=true then Af g [.ret (.lit (.bool false))] K QR EE [v0,v1,v2,v3,v4,v5,some (.ref st),v7,some (.ref nd),v9,some (.ref fo),some (.str s),p12,v13,v14] H else Af g [] K QR EE [v0,v1,v2,v3,v4,v5,some (.ref st),v7,some (.ref nd),v9,some (.ref fo),some (.str s),p12,v13,v14] H) H) nk hx1 hs;rw[e]at this;refine this ?_;dsimp only[Dd,bne];refine rl Iz (rl hso (nx _ _ (Ab λK nx=>⟨hmd,Lq hN .refl (ED hsf) λr hr _=>Fk (Bu hr) (Fl H' v0 v1 v2 v3 v4 v5 (some (.ref st)) v7 (some (.ref nd)) v9 (some (.ref fo)) v13 v14) ⟨_,_,rfl,rfl⟩ ?_⟩)));rintro I2 hI2 j V2 H2 ⟨q11,q12,rfl,rfl⟩;refine⟨rfl,λ_=>nx _ _ (hI _ _ _ ⟨_,_,rfl,rfl⟩),λo ho=>⟨show 12<15 by decide,?_⟩⟩;exact Ab λK nx=>VT rfl rfl rfl nk hs hf (Gr.met s hsg o (mem_of_getElem? ho)) (nx _ _ (hI2 _ _ _ ⟨_,_,rfl,rfl⟩))
theorem RJ(hmd:g.md=true)(hl:V.length=15)(hv11:V[11]? =some (some (.str x.name)))(hv6:V[6]? =some (some (.ref st)))(hv8:V[8]? =some (some (.ref nd)))(nk:(B.pacts.map (·.name)).Nodup)(hx:x∈B.pacts)(hs:H st=some (.dict ep (B8 (Bn B.pacts))))(hN:NeedsAt H nd (AX B) (B.pacts.map (·.name)))
  (q:∀z H',Ext H H'->H' z=some (.list (Ae (x.needs.filter (BA B))))->Q (.ref z) H') :
  Aj g (.comp (.var 15) 1 false (.sub (.var 8) (.var 11)) (some (.ao true [(.cmp .In (.var 15) (.var 6)),(.cmp .Eq (.sub (.var 6) (.var 15)) (.lit (.str (ofString "fallen"))))]))) V Q E H:=by
 refine e22 hN λepn esn hnd hr=>e13 (hr x.name (mem_map_of_mem hx)) λr hr1 hr2 hr8=>?_;rw[(IM nk hx).2]at hr2 hr8;refine Ij hmd hl (BA B) hr8 (λQ' hQ=>?_) (Bu hr2) (λo _ H1 E1 K1 hK1=>?_) λz H1 E1 _ hz=>q z H1 E1 hz
 ·dsimp only[Au,Ad];refine rl hv8 (rl hv11 ?_);show A8 (.ref nd) (.str x.name) _ _;exact rl CU (rl hnd ⟨_,hr1,hQ⟩)
 ·have h15:(V++[some (.str o)])[15]? =some (some (.str o)):=by refine rl (getElem?_append_right (rl hl (le_refl _))) (rl hl ?_);rfl
  have h6:(V++[some (.str o)])[6]? =some (some (.ref st)):=by refine rl (getElem?_append_left (AJ hv6).1) ?_;exact hv6
  have hs1:=E1 _ _ hs;have hK:=hK1 _ .refl;dsimp only[Am,AQ,AT,Ar,Ad,Au,Aq];refine rl h15 (rl h6 ?_);dsimp only[AS];refine Ik hs1 ?_;unfold BA at hK;refine rl Gi (rl isSome_map ?_);dsimp only[Az];cases e:AU B.pacts o with
  |none=>
   rw[e]at hK;cases e':lk (Bn B.pacts) o with
   |none=>exact hK
   |some s=>
    have:o∈B.pacts.map (·.name):=by exact rl stL_keys.symm (mem_map.mpr ⟨_,Qj e',rfl⟩)
    refine e11 (Ma this) λw hw=>?_;rw[e]at hw;trivial
  |some w=>
   rw[e]at hK;refine Ap (D5 (j:=w.1) (q:=w.2) e) λh1 h2=>?_;have e':lk (Bn B.pacts) o=some w.2.state:=by exact rl h2.symm (N8 nk (mem_of_getElem? h1))
   refine rl e'<|rl (if_pos rfl)<|rl CU (rl hs1 ⟨_,by refine rl Gi (rl e' ?_);rfl,?_⟩);dsimp only[CF];exact rl Me hK
end
section
variable{c:Cx}(G:Gd c L13.P){n:Nat}{H:Ac}{QN:VV->Ac->Prop}{QR:AV->Ac->Prop}{EE:String->VV->Ac->Prop}{v1 v2 v3 v4 v5 v7 v9 v11 v12 v13 v14:Option AV}{b st nd fo:Addr}{B B':Bk}{gs pur:List Str}{rs:List Rd}{ep:Nat}
include G
theorem T7(R:Rok pur rs)(I:Iv pur rs B)(I':Iv pur rs B')(N:NF B)(hB:B'.pacts=B.pacts.map (Bm gs))(hb:H b=some (.book B'))(hs:H st=some (.dict ep (B8 (Bn B.pacts))))(hf:H fo=some (.list (Ae gs)))(hN:NeedsAt H nd (AX B) (B.pacts.map (·.name)))
  (hit:∀(Q:AV->Ac->Prop) E,(∀z ws H',Ext H H'->H' z=some (.list (Ae ws))->(∀s∈ws,s∈B.pacts.map (·.name))->Q (.ref z) H')->Aj ⟨c,n+5,true⟩ it [some (.ref b),v1,v2,v3,v4,v5,some (.ref st),v7,some (.ref nd),v9,some (.ref fo),v11,v12,v13,v14] Q E H)
  (q:∀H' p11 p13,Ext H H'->QN [some (.ref b),v1,v2,v3,v4,v5,some (.ref st),v7,some (.ref nd),v9,some (.ref fo),p11,v12,p13,v14] H') :
  A4 ⟨c,n+5,true⟩ (.for (.var 11) it [.ite (.cmp .NotEq (.meth (.var 0) "state_of" [(.var 11)]) (.sub (.list [(.sub (.var 6) (.var 11)),(.lit (.str (ofString "done")))]) (.prim .int [(.cmp .In (.var 11) (.var 10))]))) [.ret (.lit (.bool false))] [],
  .assign (.var 13) (.comp (.var 15) 1 false (.sub (.var 8) (.var 11)) (some (.ao true [(.cmp .In (.var 15) (.var 6)),(.cmp .Eq (.sub (.var 6) (.var 15)) (.lit (.str (ofString "fallen"))))]))),
  .ite (.ao true [(.cmp .Eq (.sub (.var 6) (.var 11)) (.lit (.str (ofString "open")))),(.cmp .NotEq (.var 13) (.list []))]) [.ret (.lit (.bool false))] []]) QN QR EE [some (.ref b),v1,v2,v3,v4,v5,some (.ref st),v7,some (.ref nd),v9,some (.ref fo),v11,v12,v13,v14] H:=by
 have hM:c.P.meths=BK.meths:=by refine rl G.hP ?_;rfl
 have nk:=I.nd R;dsimp only[BX];refine⟨rfl,hit _ _ λz ws H1 E1 hz hws=>Fk (Bu hz) (Fm H1 (some (.ref b)) v1 v2 v3 v4 v5 (some (.ref st)) v7 (some (.ref nd)) v9 (some (.ref fo)) v12 v14) ⟨_,_,rfl,.refl⟩ ?_⟩;rintro J hJ k V' H' ⟨p11,p13,rfl,hE⟩;refine⟨(hE _ _ hz).trans hz.symm,λ_=>q _ _ _ (E1.trans hE),λs hs'=>?_⟩;refine e12 (mem_map.mp (hws s (mem_of_getElem? hs'))) λx hx z02=>?_;obtain rfl:=z02;have hE0:=E1.trans hE;refine⟨show 11<15 by decide,?_⟩;refine Ab λK nx=>?_;dsimp only[A7,Ar];refine Db hM (by decide) (by decide) (hE0 _ _ hb) rfl ?_;dsimp only[Al,An,Ad];have sa:∀{Q:AV->Ac->Prop} {E:String->Ac->Prop},Q (.str (Bm gs x).state.str) H'->CallOK c (n+5) true "Book.state_of" [.ref b,.str x.name] Q E H':=λ{Q E} h=>by
  have:=LK (n:=n+2) (Q:=Q) (E:=E) (H:=H') (x:=Bm gs x) G R I' (hE0 _ _ hb) (rl hB (mem_map_of_mem hx)) h;rw[dnM_name]at this;exact this
 refine sa<|Ql (x:=x) rfl rfl rfl nk hx (hE0 _ _ hs) (hE0 _ _ hf) λH2 E2=>?_;dsimp only[Dd,bne];refine rl (beq_self_eq_true ..)<|nx _ _ ?_;have hE2:=hE0.trans E2;refine Ab λK nx=>?_;dsimp only[At];refine RJ (x:=x) rfl rfl rfl rfl rfl nk hx (hE2 _ _ hs) (hN.ext hE2) λz3 H3 E3 hz3=>⟨show 13<15 by decide,nx _ _ ?_⟩
 have hE3:=hE2.trans E3;refine Ab λK nx=>?_;dsimp only[A7,Am,AQ,AT,Ar,Au,Ad,Aq,AB,An];show A8 (.ref st) (.str x.name) _ _;refine Mw nk hx (hE3 _ _ hs) ?_;dsimp only[CF];refine rl Iz ?_;have done:∀H4,Ext H3 H4->K [some (.ref b),v1,v2,v3,v4,v5,some (.ref st),v7,some (.ref nd),v9,some (.ref fo),some (.str x.name),v12,some (.ref z3),v14] H4:=λH4 E4=>nx _ _ (hJ _ _ _ ⟨_,_,rfl,((hE.trans E2).trans E3).trans E4⟩);by_cases ho:x.state = .opn
 ·refine rl ho ?_;have:x.needs.filter (BA B)=[]:=filter_eq_nil_iff.mpr λo hm h=>by rw[N x hx ho o hm]at h;trivial
  rw[this]at hz3;dsimp only[Gp];exact IB (ne:=true) hz3 λH4 E4=>done H4 E4
 ·exact rl (show(x.state==Sta.opn)=false from beq_false_of_ne ho)<|done H3 .refl
end
end
section
open L13
def Kh(hd:Addr)(H H':Ac):Prop:=∀a x,x.isB=false->a≠hd->H a=some x->H' a=some x
structure Held(H:Ac)(hd:Addr)(ys:List Addr):Prop where
 at_:H hd=some (.list (ys.map .ref))
 v:∀y∈ys,∃a b l,H y=some (.tuple [.ref a,.ref b])/\H a=some (.list (Ae l))/\H b=some (.list (Ae l))/\a≠hd/\b≠hd
theorem Kh.trans(x:Kh hd H H')(y:Kh hd H' H''):Kh hd H H'':=λa o n m h=>y a o n m (x a o n m h)
theorem Kh.ext(e:Ext H H'):Kh hd H H':=λa o _ _ h=>e a o h
theorem Kh.kp(e:Kp H H'):Kh hd H H':=λa o n _ h=>e a o n h
theorem Kh.kb(e:Kb hd H H'):Kh hd H H':=λa o _ m h=>e a o m h
theorem Kh.own(x:Kh hd H H')(h:H z=none):Kh hd H (up H' z o):=λa y n m e=>by exact rl (Ag (Cd e h)) (x a y n m e)
theorem Held.ne(h:Held H hd ys)(hy:H y=some (.tuple xs)):y≠hd:=λe=>by rw[e,h.at_]at hy;exact AObj.noConfusion (Ak hy)
theorem Held.nd(h:Held H hd ys)(hy:H y=some (.dict ep es)):y≠hd:=λe=>by rw[e,h.at_]at hy;exact AObj.noConfusion (Ak hy)
theorem Held.kh(h:Held H hd ys)(k:Kh hd H H')(e:H' hd=H hd):Held H' hd ys:=⟨e.trans h.at_,λy hy=>let ⟨a,b,l,h1,h2,h3,h4,h5⟩:=h.v y hy;⟨a,b,l,k _ _ rfl (h.ne h1) h1,k _ _ rfl h4 h2,k _ _ rfl h5 h3,h4,h5⟩⟩
theorem Held.app(h:Held H hd ys)(hz:∀y∈zs,∃a b l,H y=some (.tuple [.ref a,.ref b])/\H a=some (.list (Ae l))/\H b=some (.list (Ae l))/\a≠hd/\b≠hd):Held (up H hd (.list (ys.map .ref++zs.map .ref))) hd (ys++zs):=by
 exact⟨by exact rl Ah (rl map_append rfl),λy hy=>e35 ((mem_append.mp hy).elim (h.v y) (hz y)) λa b l h1 h2 h3 h4 h5=>⟨a,b,l,by refine rl (Ag (h.ne h1)) ?_;exact h1,by refine rl (Ag h4) ?_;exact h2,by refine rl (Ag h5) ?_;exact h3,h4,h5⟩⟩
inductive Hz(H:Ac)(w:Str->List Str)(es:List (Str×Addr))(k:Nat)(acc:List AV)(H':Ac):Prop
 |mk (zs:List Addr) (ha:acc=zs.map .ref) (hl:zs.length=k) (v:∀y∈zs,∃e∈es,∃c,H' y=some (.tuple [.ref e.2,.ref c])/\H' c=some (.list (Ae (w e.1)))/\H c=none) (hE:Ext H H')
section
variable{V:VV}{Q:AV->Ac->Prop}{E:String->Ac->Prop}{H:Ac}{w:Str->List Str}
theorem VK(hmd:g.md=true)(hv7:V[7]? =some (some (.ref wh)))(hv4:V[4]? =some (some (.ref hd)))(hl:V.length=15)(hh:Held H hd ys)(hwh:H wh=some (.dict ep (wD es)))(kn:(es.map (·.1)).Nodup)(hv:∀e∈es,H e.2=some (.list (Ae (w e.1))))(hne:∀e∈es,e.2≠hd)(hw:∀e∈es,(w e.1).length<=1000)(le:es.length<=60)(ly:ys.length<=10000)
  (q:∀H' ys',Kb hd H H'->Held H' hd ys'->ys'.length=ys.length+es.length->Q .none H') :
  Aj g (.bm (.var 4) .extend [.comp (.tuple [(.sub (.var 7) (.var 15)),(.prim .list [(.sub (.var 7) (.var 15))])]) 1 false (.var 7) none]) V Q E H:=by
 have h15:∀x:AV,(V++[some x])[15]? =some (some x):=λx=>by refine rl (getElem?_append_right (rl hl (le_refl _))) (rl hl ?_);rfl
 have h7:∀x:AV,(V++[some x])[7]? =some (some (.ref wh)):=λx=>by refine rl (getElem?_append_left (AJ hv7).1) ?_;exact hv7
 dsimp only[Ax,Ad];refine rl hv4 ⟨?_,?_⟩
 ·show match H hd with|some (.list _)=>_|some (.dict _ _)=>_|_=>False
  exact rl hh.at_ (.inr (.inr (.inr (.inr (.inr rfl)))))
 dsimp only[Al,An,Bl,Ad];refine rl hv7 ⟨hmd,?_⟩;have hi:=JS hwh;rw[It]at hi;refine⟨Ae (es.map (·.1)),hi,by refine rl (AO ..) (rl (length_map ..) ?_);exact le_trans le (by decide),Hz H w es,⟨[],rfl,rfl,(λy hy=>by trivial),.refl⟩,?_⟩;rintro k acc H' ⟨zs,rfl,hk,v,hE⟩;refine⟨(hE _ _ hwh).trans hwh.symm,λhk' a ha=>?_,λx hx=>?_⟩
 ·rw[AO,length_map]at hk';have E1:=hE.new (o:=.list (zs.map .ref)) ha;have hh1:=hh.kh (.ext E1) ((E1 _ _ hh.at_).trans hh.at_.symm);show match up H' a (.list (zs.map .ref)) hd with|some (.list xs)=>_|_=>False
  refine rl hh1.at_ ?_;show match up H' a (.list (zs.map .ref)) a with|some (.list xs)=>_|_=>False
  refine rl Ah ⟨by refine rl (length_map ..) (rl (length_map ..) (rl (hk ..) (rl (hk' ..) ?_)));exact le_trans (add_le_add ly le) (by decide),?_⟩;refine q _ (ys++zs) (λa x n h=>by rw[Ag n];exact E1 _ _ h) (hh1.app λy hy=>?_) (by rw[length_append,hk,hk']);obtain⟨e,he,c,h1,h2,h3⟩:=v y hy;exact⟨e.2,c,w e.1,CW h1 ha,E1 _ _ (hv e he),CW h2 ha,hne e he,λz=>by rw[z,hh.at_]at h3;trivial⟩
 ·refine e12 (Ff hx) λs z01 hs=>?_;obtain rfl:=z01;rw[getElem?_map,map_eq_some_iff]at hs;refine e12 hs λe he z12=>?_;obtain rfl:=z12;have hem:=mem_of_getElem? he;refine rl (if_neg Bool.false_ne_true) (rl CR (rl (if_pos rfl) ?_));dsimp only[AN,Al,An,Au,Ad,A1];refine rl (h15 ..) (rl (h7 ..) (IJ (hE _ _ hwh) kn he (IJ (hE _ _ hwh) kn he (GI (hE _ _ (hv e hem)) (hw e hem) λc hc T hT=>?_))));have E2:=Ext.refl.new (o:=.list (Ae (w e.1))) hc;have E3:=E2.new (o:=.tuple [.ref e.2,.ref c]) hT;refine⟨zs++[T],by refine rl map_append ?_;rfl,by refine rl length_append (rl hk ?_);rfl,λy hy=>?_,hE.trans E3⟩;rcases mem_append.mp hy with h|h
  ·obtain⟨e',he',c',h1,h2,h3⟩:=v y h;exact⟨e',he',c',E3 _ _ h1,E3 _ _ h2,h3⟩
  ·exact rl (mem_singleton.mp h) ⟨e,hem,c,Ah,CW Ah hT,hE.none hc⟩
end
end
section
open L13
structure Sd(H0 H:Ac)(hd fu st nd sh:Addr)(B:Bk)(ep:Nat)(d:Str->Option Nat)(Hc:Ac):Prop where
 kh:Kh hd H Hc
 k0:Kp H0 Hc
 h0:H0 hd=none
 fU:Hc fu=some (.list (Ae (AG B.pacts)))
 sT:Hc st=some (.dict ep (B8 (Bn B.pacts)))
 nD:NdIn H0 Hc nd (AX B) (B.pacts.map (·.name))
 sH:DistAt Hc sh d 100000
 n1:fu≠hd
 n2:st≠hd
 n3:nd≠hd
 n4:sh≠hd
section
variable{H0 H Hc H':Ac}{hd fu st nd sh b:Addr}{B B':Bk}{ep:Nat}{d:Str->Option Nat}
theorem Sd.go(S:Sd H0 H hd fu st nd sh B ep d Hc)(k:Kh hd Hc H'):Sd H0 H hd fu st nd sh B ep d H':=
 ⟨S.kh.trans k,λa x n h=>k a x n (Cd h S.h0) (S.k0 a x n h),S.h0,k _ _ rfl S.n1 S.fU,k _ _ rfl S.n2 S.sT,let ⟨ep,es,h1,h2⟩:=S.nD;⟨ep,es,k _ _ rfl S.n3 h1,h2⟩,let ⟨ep,es,h1,h2⟩:=S.sH;⟨ep,es,k _ _ rfl S.n4 h1,h2⟩,S.n1,S.n2,S.n3,S.n4⟩
theorem Sd.ext(S:Sd H0 H hd fu st nd sh B ep d Hc)(e:Ext Hc H'):Sd H0 H hd fu st nd sh B ep d H':=S.go (.ext e)
end
section
variable(G:Gd c L13.P)
theorem Ut(R:Rok pur rs)(I:Iv pur rs B)(Gr:Grt (AG B.pacts) (AX B) (Bv B.pacts) gs):(C0 gs B).pacts=B.pacts.map (Bm gs)/\Iv pur rs (C0 gs B)/\(NF B->NF (C0 gs B)):=by
 have fn:=Oy (I.nd R) Gr.sub;have hm:=Os (g:=gs) (I.nd R) λk hk=>let ⟨e,h,_⟩:=fn.2 k hk;⟨e,h⟩
 refine⟨hm,I.settle R Gr.sub,λN=>N.settle hm λx hx hg=>e12 (fn.2 _ hg) λe h1 h2=>?_⟩;obtain⟨⟨j,h3⟩,_⟩:=IM (I.nd R) hx;rw[h3]at h1;rw[<-Ak h1]at h2;exact beq_iff_eq.mp (Bool.and_eq_true _ _▸h2:_/\_).1
include G
theorem LD(R:Rok pur rs)(I:Iv pur rs B)(Gr:Grt (AG B.pacts) (AX B) (Bv B.pacts) gs)(hb:H b=some (.book B))(q:∀z H',H z=none->Kp H H'->(∀a x,a≠b->H a=some x->H' a=some x)->H' b=some (.book (C0 gs B))->H' z=some (.list (Ae gs))->Q (.ref z) H'):CallOK c (n+3) true "Book.settle" [.ref b] Q E H:=by
 refine V8 G U13 rfl rfl rfl rfl rfl rfl hb (I.ok R) (I.nd R) λz g hz hg=>rl (Eq.symm (Gr.uniq hg (I4 (I.nd R)))) ?_;have hzb:b≠z:=Cd hb hz;refine q z _ hz (λa x n h=>?_) (λa x n h=>?_) (rl (Ag hzb) Ah) Ah
 ·refine rl (Ag (Cd h hz)) (rl (Ag (λe=>by rw[e,hb]at h;obtain rfl:=Ak h;trivial)) ?_);exact h
 ·exact rl (Ag (Cd h hz)) (rl (Ag n) h)
end
section
variable(G:Gd c L13.P)
set_option tactic.hygienic true in
theorem Tv{g:Gx}{fo:Addr}{gs:List Str}{v1 v2 v3 v5 v6 v7 v8 v9 v11 v12 v13:Option AV}{QN:VV->Ac->Prop}{EE:String->VV->Ac->Prop}{H5:Ac}{B':Bk}(G:Gd c L13.P)(hgc:g=⟨c,n+5,true⟩)(R:Rok pur rs)(I':Iv pur rs B')(Gr:Grt (AG B'.pacts) (AX B') (Bv B'.pacts) [])(gl:gs.length<=60)(hh:Held H5 hd ys)(ly:ys.length<=10000)(h5:H5 fo=none)(k5:Kh hd H5 H)(hhd:H hd=H5 hd)(hfo:H fo=some (.list (Ae gs)))(hne:tw≠b)(hb:H b=some (.book B'))(htw:H tw=some (.book B'))
  (q:∀H' ys',Kh hd H5 H'->Held H' hd ys'->ys'.length=ys.length+2->H' b=some (.book B')->H' tw=some (.book B')->Q (.bool true) H') :
  Af g (L13.ZD.body.drop 10) QN Q EE [some (.ref b),v1,v2,v3,some (.ref hd),v5,v6,v7,v8,v9,some (.ref fo),v11,v12,v13,none] H:=by
 refine rl hgc ?_;have hM:c.P.meths=BK.meths:=by refine rl G.hP ?_;rfl
 have n1:fo≠hd:=(Cd hh.at_ h5).symm;have nb:b≠fo:=λe=>by rw[e,hfo]at hb;exact AObj.noConfusion (Ak hb)
 have nt:tw≠fo:=λe=>by rw[e,hfo]at htw;exact AObj.noConfusion (Ak htw)
 have nh:∀{H:Ac} {y:Addr} {B:Bk} {xs:List AV},H y=some (.book B)->H hd=some (.list xs)->y≠hd:=λh1 h2 e=>by rw[e,h2]at h1;exact AObj.noConfusion (Ak h1)
 refine Ab λK nx=>?_;dsimp only[AP];refine IN (v:=.str DE) rfl hfo (λQ' h=>h) (by exact rl AO (le_trans gl (by decide))) (nx _ _ (rl txs_snoc ?_));have k1:Kh hd H5 (up H fo (.list (Ae (gs++[DE])))):=k5.own h5;have hd1:up H fo (.list (Ae (gs++[DE]))) hd=H5 hd:=by refine rl (Ag n1.symm) ?_;exact hhd
 have hf1:up H fo (.list (Ae (gs++[DE]))) fo=some (.list (Ae (gs++[DE]))):=Ah;have b1:up H fo (.list (Ae (gs++[DE]))) b=some (.book B'):=by refine rl (Ag nb) ?_;exact hb
 have t1:up H fo (.list (Ae (gs++[DE]))) tw=some (.book B'):=by refine rl (Ag nt) ?_;exact htw
 have ll:(gs++[DE]).length<=1000:=by refine rl length_append ?_;show gs.length+1<=1000;exact lt_of_le_of_lt (by assumption) (by decide)
 generalize gs++[DE]=gm at k1 hd1 hf1 b1 t1 ll;generalize up H fo (.list (Ae gm))=H1 at k1 hd1 hf1 b1 t1;have hh1:=hh.kh k1 hd1;refine Ab λK nx=>?_;dsimp only[AP,Ax,Ad];refine⟨?_,?_⟩
 ·show match H1 hd with|some (.list _)=>_|some (.dict _ _)=>_|_=>False
  refine rl hh1.at_ ?_;exact .inl rfl
 dsimp only[Al,An,AN,Ad,A1];show BS _ .list [.ref fo] _ H1;refine GI hf1 ll λc1 hc1 T1 hT1=>?_;have E2:=(Ext.refl.new (o:=.list (Ae gm)) hc1).new (o:=.tuple [.ref fo,.ref c1]) hT1;have hT:up (up H1 c1 (.list (Ae gm))) T1 (.tuple [.ref fo,.ref c1]) T1=some (.tuple [.ref fo,.ref c1]):=Ah;have hc:up (up H1 c1 (.list (Ae gm))) T1 (.tuple [.ref fo,.ref c1]) c1=some (.list (Ae gm)):=CW Ah hT1;generalize up (up H1 c1 (.list (Ae gm))) T1 (.tuple [.ref fo,.ref c1])=H2 at E2 hT hc;have hh2:=hh1.kh (.ext E2) ((E2 _ _ hh1.at_).trans hh1.at_.symm);refine DJ hh2.at_ (by exact rl (length_map ..) (le_trans ly (by decide))) (nx _ _ ?_);have hh3:=hh2.app (zs:=[T1]) λy hy=>⟨fo,c1,gm,by refine rl (mem_singleton.mp hy) ?_;exact hT,E2 _ _ hf1,hc,n1,λe=>by rw[e,hh1.at_]at hc1;trivial⟩
 have k3:Kh hd H5 (up H2 hd (.list (ys.map .ref++[T1].map .ref))):=(k1.trans (.ext E2)).trans (.kb .up);have b3:up H2 hd (.list (ys.map .ref++[T1].map .ref)) b=some (.book B'):=by refine rl (Ag (nh b1 hh1.at_)) ?_;exact E2 _ _ b1
 have t3:up H2 hd (.list (ys.map .ref++[T1].map .ref)) tw=some (.book B'):=by refine rl (Ag (nh t1 hh1.at_)) ?_;exact E2 _ _ t1
 change Af _ _ _ _ _ _ (up H2 hd (.list (ys.map .ref++[T1].map .ref)))
 generalize up H2 hd (.list (ys.map .ref++[T1].map .ref))=H3 at hh3 k3 b3 t3;clear hh2 hh1 hT hc hT1 hc1 E2 k1 hd1 hf1 b1 t1;refine Ab λK nx=>?_;dsimp only[At];refine Db hM (by decide) (by decide) b3 rfl ?_;dsimp only[An];refine LD (n:=n+2) G R I' Gr b3 λz H4 hz0 kp4 ko4 b4 hz=>⟨show 14<15 by decide,nx _ _ ?_⟩
 have t4:=ko4 _ _ hne t3;have hh4:=hh3.kh (.kp kp4) ((kp4 _ _ rfl hh3.at_).trans hh3.at_.symm);have nz:z≠hd:=(Cd hh3.at_ hz0).symm;refine Ab λK nx=>?_;dsimp only[AP,Ax,Ad];refine⟨?_,?_⟩
 ·show match H4 hd with|some (.list _)=>_|some (.dict _ _)=>_|_=>False
  refine rl hh4.at_ ?_;exact .inl rfl
 dsimp only[Al,An,AN,Ad,AB];show ∀a,H4 a=none->∀T,up H4 a (.list []) T=none->FS (.ref hd) .append [.ref T] _ (up (up H4 a (.list [])) T (.tuple [.ref z,.ref a]));intro c2 hc2 T2 hT2;have E5:=(Ext.refl.new (o:=.list []) hc2).new (o:=.tuple [.ref z,.ref c2]) hT2;have hT:up (up H4 c2 (.list [])) T2 (.tuple [.ref z,.ref c2]) T2=some (.tuple [.ref z,.ref c2]):=Ah;have hc:up (up H4 c2 (.list [])) T2 (.tuple [.ref z,.ref c2]) c2=some (.list (Ae [])):=CW Ah hT2;generalize up (up H4 c2 (.list [])) T2 (.tuple [.ref z,.ref c2])=H6 at E5 hT hc;have hh6:=hh4.kh (.ext E5) ((E5 _ _ hh4.at_).trans hh4.at_.symm);refine DJ hh6.at_ (by refine rl (length_map ..) (rl (length_append ..) ?_);show ys.length+1<=100000;exact lt_of_le_of_lt (by assumption) (by decide)) (nx _ _ ?_);have hh7:=hh6.app (zs:=[T2]) λy hy=>⟨z,c2,[],by refine rl (mem_singleton.mp hy) ?_;exact hT,E5 _ _ hz,hc,nz,λe=>by rw[e,hh4.at_]at hc2;trivial⟩
 have k7:Kh hd H5 (up H6 hd (.list ((ys++[T1]).map .ref++[T2].map .ref))):=((k3.trans (.kp kp4)).trans (.ext E5)).trans (.kb .up);have b7:up H6 hd (.list ((ys++[T1]).map .ref++[T2].map .ref)) b=some (.book B'):=by refine rl (Ag (nh b4 hh4.at_)) ?_;exact E5 _ _ b4
 have t7:up H6 hd (.list ((ys++[T1]).map .ref++[T2].map .ref)) tw=some (.book B'):=by refine rl (Ag (nh t4 hh4.at_)) ?_;exact E5 _ _ t4
 have z7:up H6 hd (.list ((ys++[T1]).map .ref++[T2].map .ref)) z=some (.list (Ae [])):=by refine rl (Ag nz) ?_;exact E5 _ _ hz
 change Af _ _ _ _ _ _ (up H6 hd (.list ((ys++[T1]).map .ref++[T2].map .ref)))
 generalize up H6 hd (.list ((ys++[T1]).map .ref++[T2].map .ref))=H7 at hh7 k7 b7 t7 z7;dsimp only[BG,Bp,Am,AQ,AT,Ba,Ad,Ar,AB,An];show match DH _ H7 (.ref z) "list" with|some b=>_|none=>False
 exact rl (LX z7)<|IB (ne:=false) z7 λH8 E8=>q H8 _ (k7.trans (.ext E8)) (hh7.kh (.ext E8) ((E8 _ _ hh7.at_).trans hh7.at_.symm)) (by refine rl length_append (rl length_append ?_);rfl) (E8 _ _ b7) (E8 _ _ t7)
end
end
section
open L13
section
theorem Xn{g:Gx}{V:VV}{Q:AV->Ac->Prop}{E:String->Ac->Prop}{H:Ac}{st:Addr}{ps:List Pc}{ep:Nat}{e:X}{t:Int}(hmd:g.md=true)(hv:V[6]? =some (some (.ref st)))(hv3:V[3]? =some (some (.int t)))(hs:H st=some (.dict ep (B8 (Bn ps))))(hl:ps.length<=60)(q:∀z ws H',Ext H H'->H' z=some (.list (Ae ws))->(∀s∈ws,s∈ps.map (·.name))->Q (.ref z) H') :
  Aj g (.bin .Mult (.prim .list [(.var 6)]) (.prim .int [(.cmp .Gt (.bin .Mod (.bin .FloorDiv (.var 3) (.lit (.int 60))) (.lit (.int 3))) (.lit (.int 0)))])) V Q E H:=by
 have e4:((B8 (Bn ps)).map λe=>AV.str e.1)=Ae (ps.map (·.name)):=by rw[<-stL_keys,<-Io];unfold Ae;rw[map_map];rfl
 dsimp only[Av,A1,Al,An,Ad,Ar,Aq];refine rl hv (rl hv3 ?_);show BS _ .list [.ref st] _ H;refine rl Gc (rl hs ⟨hmd,by unfold B8 Bn;refine rl (length_map ..) (rl (length_map ..) ?_);exact le_trans hl (by decide),λz hz=>?_⟩);refine rl e4 ?_;have E1:=Ext.refl.new (o:=.list (Ae (ps.map (·.name)))) hz;have hz1:up H z (.list (Ae (ps.map (·.name)))) z=some (.list (Ae (ps.map (·.name)))):=Ah;generalize up H z (.list (Ae (ps.map (·.name))))=H1 at E1 hz1;refine⟨by decide,by decide,?_⟩;show match H1 z with|some (.list xs)=>_|_=>False
 refine rl hz1 ?_;by_cases h:decide ((0:Int)<(t.fdiv 60).fmod 3)=true
 ·refine rl (if_pos h) ⟨.inr rfl,by refine rl (AO ..) (rl (length_map ..) ?_);exact le_trans hl (by decide),λz2 hz2=>?_⟩;exact q z2 (ps.map (·.name)) _ (E1.new hz2) (by exact rl Ah (rl (if_pos rfl) rfl)) λs h=>h
 ·refine rl (if_neg h) ⟨.inl rfl,by refine rl (AO ..) (rl (length_map ..) ?_);exact le_trans hl (by decide),λz2 hz2=>?_⟩;exact q z2 [] _ (E1.new hz2) (by refine rl Ah (rl (if_neg (by decide)) ?_);rfl) λs h=>by trivial
variable(G:Gd c L13.P)
include G
set_option tactic.hygienic true in
theorem T8(R:Rok pur rs)(I:Iv pur rs B)(N:NF B)(hne:tw≠b)(hb:H b=some (.book B))(htw:H tw=some (.book B))(htl:H tl=some (.list (ts.map .ref)))(hR:Di H0 ts rs)(K0:Kp H0 H)(h0:H0 hd=none)(hh:Held H hd ys)(ly:ys.length<=1000)
  (q:∀H' ys' B',Kh hd H H'->Held H' hd ys'->ys'.length<=ys.length+62->H' b=some (.book B')->H' tw=some (.book B')->Iv pur rs B'->NF B'->Q (.bool true) H'):CallOK c (n+6) true "_law_settled" [.ref b,.ref tw,.ref tl,.int turn,.ref hd] Q E H:=by
 have hM:c.P.meths=BK.meths:=by refine rl G.hP ?_;rfl
 have hbl:B.pacts.length<=60:=by exact rl I.ln R.len
 refine e11 (Lw (AG B.pacts) (AX B) (Bv B.pacts)) λgs Gr=>?_;have nk:=I.nd R;refine G.call (F:=L13.ZD) rfl rfl ?_;show Af _ _ _ _ _ [some (.ref b),some (.ref tw),some (.ref tl),some (.int turn),some (.ref hd),none,none,none,none,none,none,none,none,none,none] _;refine Ab λK nx=>?_;dsimp only[At,A6,Al,An,Ad];show CallOK _ _ _ _ [.ref b,.ref tl,.int turn] _ _ _;refine Wu (n:=n) G R I Gr hb htl (GN hR K0) λt fu st wh es ep H1 E1 ht hfu hst W hes nfu les fu0=>?_;dsimp only[Dm];refine⟨rfl,?_⟩;show match H1 t with|some (.tuple xs)=>_|some (.list xs)=>_|_=>False
 refine rl ht ⟨rfl,nx _ _ ?_⟩;show Af _ _ _ _ _ [some (.ref b),some (.ref tw),some (.ref tl),some (.int turn),some (.ref hd),some (.ref fu),some (.ref st),some (.ref wh),none,none,none,none,none,none,none] _;refine Ab λK nx=>?_;dsimp only[At];refine Xj rfl rfl rfl (E1 _ _ htl) hR (K0.trans (.ext E1)) R I λnd H2 E2 _ hN=>⟨show 8<15 by decide,nx _ _ ?_⟩
 have K02:Kp H0 H2:=K0.trans (.ext (E1.trans E2));refine Ab λK nx=>?_;dsimp only[At,A6,Al,An,Ad];show CallOK _ _ _ _ [.ref st,.ref fu,.ref nd] _ _ _;refine Px (n:=n+4) (f:=AX B) G (E2 _ _ hst) (rl (stL_keys ..) nk) (E2 _ _ hfu) (λx hx=>by exact rl (stL_keys ..) (ED hx)) (I4 nk) (by exact rl (stL_keys ..) (hN.at K02)) (λx hx=>I.nl R (by refine rl (Eq.symm (stL_keys ..)) ?_;exact hx)) (by unfold Bn;refine rl (length_map ..) ?_;exact hbl) λsh H3 d E3 _ hS D=>⟨show 9<15 by decide,nx _ _ ?_⟩
 have hdn:C_ (Bn B.pacts)=Bv B.pacts:=done_st.symm;have hdm:Ew (Bn B.pacts) (AX B)=C8 B:=by unfold Ew C8;exact rl stL_keys rfl
 rw[hdn,hdm]at D;have E03:=(E1.trans E2).trans E3;have E13:=E2.trans E3;have K03:Kp H0 H3:=K02.trans (.ext E3);have hj:=PF nk;have hdomf:∀x∈AG B.pacts,∀o∈AX B x,o∈C8 B:=λx hx o ho=>LW (ED hx) ho;have hwl:∀e∈es,∀l,Ki (AX B) d e.1 l->wB B gs e.1=l:=λe he l wo=>Q4 D hj hdomf Gr (JB (hes e he)) wo;have W3:=W.ext E13;refine e11 W3.at_ λepw hwh3=>?_;refine Ab λK nx=>?_;dsimp only[A7,AF,A6,Al,An,Ad];show CallOK _ _ _ _ [.ref wh,.ref sh,.ref nd] _ _ _;refine Qi (n:=n+3) (H0:=H0) G W3 K03 (λe he a x hx hh=>Cd (K0 a x hx hh) (W.fr e he)) D (le_trans Fe hbl) hS ((hN.ext E3).sub λx hx=>ED hx) hwl (le_trans les (by decide)) λH4 K4 hv4=>nx _ _ ?_;have E04:Ext H H4:=K4.ext0 E03 W.fr;have hh4:=hh.kh (.ext E04) ((E04 _ _ hh.at_).trans hh.at_.symm);have hst4:=K4.dict W3.v (E13 _ _ hst);have hwh4:=K4.dict W3.v hwh3;have nfh:fu≠hd:=(Cd hh.at_ fu0).symm;have hfu4:H4 fu=some (.list (Ae (AG B.pacts))):=K4 _ _ (λe he q=>nfu e he q.symm) (E13 _ _ hfu);have hN4:NdIn H0 H4 nd (AX B) (B.pacts.map (·.name)):=by
  exact e22 (hN.ext E3) λep' es' h1 h2=>⟨ep',es',K4.dict W3.v h1,h2⟩
 have hS4:DistAt H4 sh d 100000:=by
  exact e22 hS λep' es' h1 h2=>⟨ep',es',K4.dict W3.v h1,h2⟩
 have S4:Sd H0 H hd fu st nd sh B ep d H4:=⟨.ext E04,K0.trans (.ext E04),h0,hfu4,hst4,hN4,hS4,nfh,hh4.nd hst4,by refine e22 hN4 λ_ _ h1 _=>?_;exact hh4.nd h1,by refine e22 hS4 λ_ _ h1 _=>?_;exact hh4.nd h1⟩
 have b4:=E04 _ _ hb;have t4:=E04 _ _ htw;have kn:=W.kn;have nes:∀e∈es,e.2≠hd:=λe he=>(Cd hh.at_ (W.fr e he)).symm;have lw:∀e∈es,(wB B gs e.1++[DE]).length<=1000:=λe he=>by
  have:=(hv4 e he).2;refine rl length_append ?_;show _+1<=1000;exact lt_of_le_of_lt (by assumption) (by decide)
 clear W W3 hwh3 hst hfu hN hS ht E1 E2 E3 E13 E03 K02 K03 hst4 hfu4 hN4 hS4 nfu fu0 hwl K4 hh;refine Ab λK nx=>?_;dsimp only[AP];refine VK (w:=λs=>wB B gs s++[DE]) rfl rfl rfl rfl hh4 hwh4 kn (λe he=>(hv4 e he).1) nes lw les (le_trans ly (by decide)) λH5 ys5 K5 hh5 l5=>nx _ _ ?_;have S5:=S4.go (.kb K5);have S5kh:=S5.kh;have nhb:b≠hd:=λe=>by rw[e,hh4.at_]at b4;exact AObj.noConfusion (Ak b4)
 have nht:tw≠hd:=λe=>by rw[e,hh4.at_]at t4;exact AObj.noConfusion (Ak t4)
 have b5:=K5 _ _ nhb b4;have t5:=K5 _ _ nht t4;clear S4 hh4 hwh4 hv4 b4 t4 K5 E04;refine Br (Ut R I Gr) λhB' I' N'=>?_;have N':=N' N;have hg2:gs=(AG B.pacts).filter λx=>!(d x).isSome:=U9 D hj hdomf (λx hx=>JB (ED hx)) Gr (I4 nk);have gl:gs.length<=60:=le_trans Gr.sub.length_le (le_trans Fe hbl);have hgn:∀s∈gs,s∈B.pacts.map (·.name):=λs h=>ED (Gr.sub.subset h);have Gr':Grt (AG (C0 gs B).pacts) (AX (C0 gs B)) (Bv (C0 gs B).pacts) []:=by
  refine e11 (Lw (AG (C0 gs B).pacts) (AX (C0 gs B)) (Bv (C0 gs B).pacts)) λg' Gr'=>?_;have:g'=[]:=by
   refine Gr.again (done':=Bv (C0 gs B).pacts) ?_ λs=>?_
   ·refine rl dn_full.symm (rl hB'.symm (rl (Eq.symm (MO hB')) ?_));exact Gr'
   ·refine rl hB' ?_;exact XH hgn
  rw[this]at Gr';exact Gr'
 refine Ab λK nx=>?_;dsimp only[At];refine Db hM (by decide) (by decide) b5 rfl ?_;dsimp only[An];refine LD (n:=n+2) G R I Gr b5 λfo H6 fo0 kp6 ko6 b6 hfo=>⟨show 10<15 by decide,nx _ _ ?_⟩
 have S6:=S5.go (.kp kp6);have t6:=ko6 _ _ hne t5;have hh6:=hh5.kh (.kp kp6) ((kp6 _ _ rfl hh5.at_).trans hh5.at_.symm);generalize hBe:C0 gs B=B' at hB' I' N' Gr' b6;refine Ab λK nx=>?_;dsimp only[A7,Am,AQ,AT,AF,Ba,Ad];show match DH _ H6 (.ref fo) "list" with|some b=>_|none=>False
 refine rl (LX hfo) ?_;dsimp only[Az];refine rl (if_pos rfl) ?_;dsimp only[Ar,Ad];show Aj _ (.comp _ _ _ _ _) _ _ _ _;refine Ij (a:=fu) rfl rfl (λs=>!(d s).isSome) (le_trans Fe (le_trans hbl (by decide))) (λQ' h=>h) (Bu S6.fU) (λs _ H7 E7 K7 hK7=>?_) λz7 H7 E7 _ hz7=>?_
 ·dsimp only[set_cons_succ,set_cons_zero,cons_append,nil_append,Ar,C1,Ad,getElem?_cons_succ,Aw];refine DistAt.win (no:=true) (S6.sH.ext E7) ?_;have:=hK7 H7 .refl;cases hc:(d s).isSome<;>rw[hc]at this<;>exact this
 rw[<-hg2]at hz7;dsimp only[Gp];refine Ga (E7 _ _ hfo) hz7<|rl (decide_eq_true rfl) ?_;dsimp only[Az];refine rl (if_pos rfl) ?_;have S7:=S6.ext E7;refine Db hM (by decide) (by decide) (E7 _ _ t6) rfl<|LD (n:=n+2) G R I Gr (E7 _ _ t6) λzt H8 zt0 kp8 ko8 t8 hzt=>?_;rw[hBe]at t8;have fo8:=kp8 _ _ rfl (E7 _ _ hfo);refine Ga hzt fo8<|rl (decide_eq_true rfl)<|nx _ _ ?_;have S8:=S7.go (.kp kp8);have b8:=ko8 _ _ hne.symm (E7 _ _ b6);have hh8:H8 hd=H5 hd:=by refine rl hh5.at_ ?_;exact kp8 _ _ rfl (E7 _ _ hh6.at_)
 have k58:Kh hd H5 H8:=((Kh.kp kp6).trans (.ext E7)).trans (.kp kp8);clear S7 S6 S5 hzt zt0 kp8 ko8 hz7 E7 t6 b6 hfo kp6 ko6 hh6 t5 b5;refine Ab λK nx=>?_
 suffices go:∀H9,Ext H8 H9->K [some (.ref b),some (.ref tw),some (.ref tl),some (.int turn),some (.ref hd),some (.ref fu),some (.ref st),some (.ref wh),some (.ref nd),some (.ref sh),some (.ref fo),none,none,none,none] H9 by
  dsimp only[A7];dsimp only[set_cons_succ,set_cons_zero,Am,AQ,AT,AF,Az,Bool.not_eq_eq_eq_not,Bool.not_true,A6,Al,An,Av,Aq,Ad,getElem?_cons_succ,Aw,BW,ne_eq,Ar,B7,AD,beq_iff_eq];refine⟨by decide,by decide,?_⟩;split
  ·refine⟨by decide,?_⟩;exact UL (n:=n) G R I I' hB' Gr' b8 S8.sT S8.fU fo8 (S8.nD.at S8.k0) λH9 E9=>go H9 E9
  ·exact go H8 .refl
 intro H9 E9;refine nx _ _ ?_;have S9:=S8.ext E9;have fo9:=E9 _ _ fo8;have hN9:=S9.nD.at S9.k0;refine Ab λK nx=>Uf rfl nk S9.sT fo9 hN9 Gr λp11 p12=>nx _ _<|Ab λK nx=>T7 (n:=n) G R I I' N hB' (E9 _ _ b8) S9.sT fo9 hN9 (λQ E h=>Xn (e:=.var 0) rfl rfl rfl S9.sT hbl h) λH10 p11' p13 E10=>nx _ _ ?_;have E8':=E9.trans E10;refine Tv (n:=n) (B':=B') G rfl R I' Gr' gl hh5 (by refine rl l5 ?_;lia) fo0 (k58.trans (.ext E8')) (rl hh8.symm (rl hh8 (rl hh5.at_ (E8' _ _ (hh8.trans hh5.at_))))) (E10 _ _ fo9) hne (E8' _ _ b8) (E8' _ _ t8) λH11 ys11 k11 hh11 l11 b11 t11=>?_;exact q H11 ys11 B' (S5kh.trans k11) hh11 (by refine rl l11 (rl l5 ?_);lia) b11 t11 I' N'
end
end
section
open L13
noncomputable def ers:List String:=["NoName","NoAmount","Taken","NoPurse","TooLittle","NoRow","Twice","Uneven","Fallen","NoDay","NoPact","NotOpen","NoPart","Already"]
def Es{α:Type}:Except String α->Prop
 | .ok _=>True
 | .error e=>e∈ers
section
variable[Decidable p]
theorem CY(h:Es x)(h':Es y):Es (if p then x else y):=by
 by_cases q:p
 ·exact rl (if_pos q) h
 ·exact rl (if_neg q) h'
theorem Bi(h:ers.contains e=true):Es (.error e:Except String α):=contains_iff_mem.mp h
theorem Gw(h:Es x)(k:∀a,Es (f a)):Es (x.bind f):=by
 cases x with
 |error=>exact h
 |ok a=>exact k a
theorem Wv:Es (Dh B v w):=by
 refine CY ?_ (Bi rfl);cases BY B w with
 |none=>exact Bi rfl
 |some z=>
  refine CY ?_ (Bi rfl);cases lk z.2.parts (Bh v)with
  |none=>exact Bi rfl
  |some i=>exact CY (Bi rfl) (CY (Bi rfl) trivial)
theorem RH:Es (Bs B w):=by
 unfold Bs;cases BY B w with
 |none=>exact Bi rfl
 |some z=>exact CY trivial (Bi rfl)
theorem U5:Es (EM B l acc):=by
 induction l generalizing acc with
 |nil=>trivial
 |cons e l ih=>exact CY (CY (Bi rfl) (CY ih (Bi rfl))) (Bi rfl)
theorem OK:Es (Ei B l):=CY U5 (Bi rfl)
theorem UE:Es (EN B l s):=by
 induction l generalizing s with
 |nil=>trivial
 |cons e l ih=>exact CY (CY (Bi rfl) (CY (Bi rfl) ih)) (Bi rfl)
theorem WG:Es (II B v pL gL nL last):=by
 exact CY (CY (Bi rfl) (Gw OK λps=>Gw OK λgs=>CY (Bi rfl) (Gw (CY UE (Bi rfl)) λ_=>CY trivial (Bi rfl)))) (Bi rfl)
end
theorem MF(G:Gd c L13.P)(h:e∈ers)(q:Af ⟨c,n,false⟩ bd QN QR (λ_ _ _=>False) V H):Da ⟨c,n,true⟩ [.mk "BookError" none bd] e QN QR EE V H:=by
 dsimp only[LY,MN];exact rl (if_pos (rl G.hP ((by decide +kernel:∀e∈ers,Gl L13.P e "BookError"=true) e h))) q
section
variable{pur:List Str}{rs:List Rd}{r:Rd}
noncomputable def Rd.pc(r:Rd):Pc:=⟨r.nm,r.ps,r.gs,r.ns,r.last,.opn,[]⟩
noncomputable def Hm(B:Bk)(r:Rd):Except String Bk:=II B (.str r.nm) (P2 r.ps) (P2 r.gs) (Ae r.ns) (.int r.last)
theorem UD{l seen}(h:EN B (Ae l) seen = .ok u):∀s∈l,BA B s=false:=by
 induction l generalizing seen with
 |nil=>exact λs hs=>by trivial
 |cons a l ih=>
  have h:(if A9 a=true then(if a∈seen then .error "Twice" else if BA B a=true then .error "Fallen" else EN B (Ae l) (seen++[a])) else .error "NoName") = .ok u:=h;have h1:=(Fg (Ej h).2).2;refine Ap (Fg h1) λh2 h3=>?_;intro s hs;rcases mem_cons.mp hs with e|hs
  ·exact rl e (Bool.eq_false_iff.mpr h2)
  ·exact ih h3 s hs
theorem Sv(R:Rok pur rs)(hr:r∈rs)(fk:B.free.map (·.1)=pur)(h:Hm B r = .ok B'):B'= {B with pacts:=B.pacts++[r.pc]}/\∀s∈r.ns,BA B s=false:=by
 have rok:=R.ok r hr;refine Ap (Ej h) λhn h=>Ap (Fg h) λht h=>e12 (MW h) λps hps h=>e12 (MW h) λgs hgs h=>Ap (Fg h) λhe h=>e12 (MW h) λu hnl h=>?_;replace h:=(Ej h).2;rw[OJ fk R.pn rok.p]at hps;rw[OJ fk R.pn rok.g]at hgs;obtain rfl:=Except.ok.inj hps;obtain rfl:=Except.ok.inj hgs;refine⟨(Except.ok.inj h).symm.trans ?_,UD (Ej hnl).2⟩;have e:(Ae r.ns).map Bh=r.ns:=by
  unfold Ae;refine rl map_map ?_;exact map_id _
 refine rl e ?_;rfl
theorem Iv.told(I:Iv pur (rs.take k) B)(hr:rs[k]? =some r):Iv pur (rs.take (k+1)) {B with pacts:=B.pacts++[r.pc]}:=by
 refine⟨I.fk,I.ak,?_,λx hx=>?_⟩
 ·show(B.pacts++[r.pc]).map Pc.rd=_;refine rl map_append (rl I.kp (rl (B0 hr) ?_));rfl
 ·rcases mem_append.mp hx with h|h
  ·exact I.ins x h
  ·exact rl (mem_singleton.mp h) ⟨λk hk=>by trivial,nodup_nil⟩
theorem Vk:AU (ps++[x]) s=match AU ps s with|some e=>some e|none=>if x.name=s then some (ps.length,x) else none:=by
 induction ps with
 |nil=>rfl
 |cons y ps ih=>
  refine rl Du (rl Du ?_);by_cases e:y.name=s
  ·exact rl (if_pos e) (rl (if_pos e) rfl)
  ·refine rl (if_neg e) (rl (if_neg e) (rl ih ?_));cases AU ps s with
   |some w=>rfl
   |none=>by_cases e:x.name=s<;>simp[e]
theorem NF.told(N:NF B)(h:∀s∈r.ns,BA B s=false):NF {B with pacts:=B.pacts++[r.pc]}:=λx hx ho s hs=>by
 have e:BA {B with pacts:=B.pacts++[r.pc]} s=BA B s:=by
  unfold BA;refine rl Vk ?_;cases AU B.pacts s with
  |some w=>rfl
  |none=>
   by_cases e:r.pc.name=s
   ·refine rl (if_pos e) ?_;rfl
   ·exact rl (if_neg e) rfl
 refine rl e ?_;rcases mem_append.mp hx with hx|hx
 ·exact N x hx ho s hs
 ·rw[mem_singleton.mp hx]at hs;exact h s hs
end
end
section
open L13
theorem Qk(p:PL H a l)(hl:l.length<=100)(q:∀z H',Ext H H'->PL H' z l->Q (.ref z) H'):BS md .list [.ref a] Q H:=
 let ⟨ts,h,p⟩:=p
 Mx h (rl (length_map ..) (rl (G5 p ..) (rl (FG ..) (le_trans hl (by decide))))) λz hz=>q z _ (Ext.refl.new hz) ⟨ts,Ah,p.ext (Ext.refl.new hz)⟩
theorem EA{g:Gx}{V:VV}{Q:AV->Ac->Prop}{E:String->Ac->Prop}{H:Ac}{i j:Nat}{t:Addr}{xs:List AV}{v:AV}(hV:V[i]? =some (some (.ref t)))(ht:H t=some (.tuple xs))(hl:xs.length<=1000)(hj:xs[j]? =some v)(q:Q v H):Aj g (.sub (.var i) (.lit (.int j))) V Q E H:=by
 exact rl Au (rl Ad (rl hV (FH ht hj hl q)))
theorem QX(h:H a=some (.tuple [x,y]))(hs:stp x (λV1 H1=>H1 a=some (.tuple [x,y])/\stp y (λV2 H2=>H2 a=some (.tuple [x,y])/\QN V2 H2) V1 H1) V H):Bq QN stp (.ref a) V H:=by
 refine⟨[x,y],WS h,λk V' H'=>match k with| 0=>V'=V/\H'=H| 1=>H' a=some (.tuple [x,y])/\stp y (λV2 H2=>H2 a=some (.tuple [x,y])/\QN V2 H2) V' H'|_=>H' a=some (.tuple [x,y])/\QN V' H',⟨rfl,rfl⟩,λk V' H' hI=>?_⟩
 match k with
 | 0=>
  obtain⟨rfl,rfl⟩:=hI;exact⟨rfl,λe=>absurd (show(0:Nat)=2 from e) (by decide),λz hz=>by obtain rfl:=Ak hz;exact hs⟩
 | 1=>exact⟨hI.1.trans h.symm,λe=>absurd (show(1:Nat)=2 from e) (by decide),λz hz=>by obtain rfl:=Ak hz;exact hI.2⟩
 |k+2=>exact⟨hI.1.trans h.symm,λ_=>hI.2,λz hz=>by trivial⟩
noncomputable def Sy:List S:=[.try [.expr (.meth (.var 6) "tell" [(.sub (.var 4) (.lit (.int 0))),(.prim .list [(.sub (.var 4) (.lit (.int 1)))]),(.prim .list [(.sub (.var 4) (.lit (.int 2)))]),(.prim .list [(.sub (.var 4) (.lit (.int 3)))]),(.sub (.var 4) (.lit (.int 4)))])] [.mk "BookError" none [.assign (.var 5) (.bin .Add (.var 5) (.lit (.int 1)))]]]
noncomputable def Hl(B:Bk)(r:Rd):Bk×Int:=match Hm B r with
 | .ok B'=>(B',0)
 | .error _=>(B,1)
section
variable{c:Cx}(G:Gd c L13.P){n:Nat}{Q:AV->Ac->Prop}{E:String->Ac->Prop}{QN:VV->Ac->Prop}{QR:AV->Ac->Prop}{EE:String->VV->Ac->Prop}{H0 H:Ac}{b tw rl tl x t:Addr}{B:Bk}{pur:List Str}{rs:List Rd}{r:Rd}{rts:List Addr}{k:Nat}{m:Int}{v0 v1 v2 v3:Option AV}
include G
theorem Pv(hr:Rw H t r)(rok:IR pur r.nm r.ps r.gs r.ns r.last)(nn:A9 r.nm=true)(ok:BkOK B)(hb:H x=some (.book B))
  (q:∀H',(∀a y,a≠x->H a=some y->H' a=some y)->H' x=some (.book (Hl B r).1)->QN [v0,v1,v2,v3,some (.ref t),some (.int (m+(Hl B r).2)),some (.ref x)] H') :
  Af ⟨c,n+4,true⟩ Sy QN QR EE [v0,v1,v2,v3,some (.ref t),some (.int m),some (.ref x)] H:=by
 have hM:c.P.meths=BK.meths:=by refine rl G.hP ?_;rfl
 obtain⟨pl,gl,nl,ht,hp,hg,hnl⟩:=hr;have l5:[AV.str r.nm,.ref pl,.ref gl,.ref nl,.int r.last].length<=1000:=(by decide:5<=1000)
 have l1:r.ps.length<=100:=le_trans rok.p.l.2 (by decide);have l2:r.gs.length<=100:=le_trans rok.g.l.2 (by decide);have l3:r.ns.length<=100:=le_trans rok.l3 (by decide);refine Ab λK nx=>⟨rfl,Ab λK2 nx2=>?_⟩
 dsimp only[AP];refine Db hM (by decide) (by decide) hb rfl<|rl Al (EA (j:=0) rfl ht l5 rfl (rl Al (rl A1 (rl Al (EA (j:=1) rfl ht l5 rfl (rl An (Qk hp l1 λz1 H1 E1 p1=>rl Al (rl A1 (rl Al (EA (j:=2) rfl (E1 _ _ ht) l5 rfl (rl An (Qk (hg.ext E1) l2 λz2 H2 E2 p2=>rl Al (rl A1 (rl Al (EA (j:=3) rfl (E2 _ _ (E1 _ _ ht)) l5 rfl (rl An (GI (E2 _ _ (E1 _ _ hnl)) (le_trans l3 (by decide)) λz3 hz3=>?_)))))))))))))))));have E3:=Ext.refl.new (o:=.list (Ae r.ns)) hz3;have hn3:up H2 z3 (.list (Ae r.ns)) z3=some (.list (Ae r.ns)):=Ah;generalize up H2 z3 (.list (Ae r.ns))=H3 at E3 hn3;have E13:=(E1.trans E2).trans E3;refine rl Al (EA (j:=4) rfl (E13 _ _ ht) l5 rfl (rl An ?_));obtain⟨ts,h1,p1⟩:=(p1.ext E2).ext E3;obtain⟨us,h2,p2⟩:=p2.ext E3;refine X0 (n:=n) G U13 rfl rfl rfl rfl (by refine rl G.hP ?_;rfl) (E13 _ _ hb) ok (Kv.nm nn) Kv.int h1 p1 h2 p2 hn3 (λv hv=>?_) (by refine rl FG ?_;exact le_trans l1 (by decide)) (by refine rl FG ?_;exact le_trans l2 (by decide)) (by refine rl AO ?_;exact le_trans l3 (by decide)) ?_
 ·obtain⟨s,hs,rfl⟩:=mem_map.mp hv;exact Kv.nm (rok.nm s hs)
 ·have es:Es (Hm B r):=WG;show Ends (Hm B r) _ _;unfold Hl at q;cases e:Hm B r with
  |ok B'=>
   rw[e]at q;refine nx2 _ _ (nx _ _ ?_);have:=q (up H3 x (.book B')) (λa y n h=>by refine rl (Ag n) ?_;exact E13 _ _ h) Ah;rw[add_zero]at this;exact this
  |error cl=>
   rw[e]at q es;refine MF G es<|Ab λK3 nx3=>⟨show 5<7 by decide,nx3 _ _ (nx _ _ ?_)⟩
   exact q H3 (λa y _ h=>E13 _ _ h) (E13 _ _ hb)
set_option tactic.hygienic true in
theorem X4(R:Rok pur rs)(hk:k<rs.length)(I:Iv pur (rs.take k) B)(N:NF B)(hne:tw≠b)(hb:H b=some (.book B))(htw:H tw=some (.book B))(hrl:H rl=some (.list (rts.map .ref)))(hR:Di H0 rts rs)(K0:Kp H0 H)(htl:H tl=some (.list ((rts.take k).map .ref)))
  (q:∀H' z k' B',Kp H H'->H' b=some (.book B')->H' tw=some (.book B')->Iv pur (rs.take k') B'->NF B'->k'<=rs.length->(∀a y,y.isB=false->H a=some y->a≠z)->H' z=some (.list ((rts.take k').map .ref))->(k<=k'/\k'<=k+1)->Q (.ref z) H'):CallOK c (n+5) true "_law_tell" [.ref b,.ref tw,.ref rl,.ref tl] Q E H:=by
 have hlr:=hR.len;refine e12 (hR.getR (getElem?_eq_getElem hk)) λt ht hrw=>?_;have hrk:=getElem?_eq_getElem hk;generalize rs[k]=r at hrk hrw;have hrm:=mem_of_getElem? hrk;have hlt:(rts.take k).length=k:=by rw[length_take,hlr];exact HC hk
 have hl60:=R.len;refine G.call (F:=L13.ZF) rfl rfl ?_;show Af _ _ _ _ _ [some (.ref b),some (.ref tw),some (.ref rl),some (.ref tl),none,none,none] _;refine Ab λK nx=>?_;dsimp only[At,tv,length_cons,length_nil,Nat.reduceAdd,set_cons_succ,set_cons_zero,Au,A1,Al,An,Ad,getElem?_cons_succ,Aw];refine El htl (by rw[length_map,hlt];exact DV hk hl60 (by decide)) ?_;rw[length_map,hlt];refine Dt hrl (by rw[getElem?_map,ht];rfl) (by rw[length_map,hlr];exact le_trans (by assumption) (by decide)) ⟨by decide,nx _ _ ?_⟩;refine Ab λK nx=>⟨show 5<7 by decide,nx _ _ ?_⟩
 refine Ab λK nx=>⟨rfl,?_⟩
 intro a ha;have E1:=Ext.refl.new (o:=.tuple [.ref b,.ref tw]) ha;have ha1:up H a (.tuple [.ref b,.ref tw]) a=some (.tuple [.ref b,.ref tw]):=Ah;generalize up H a (.tuple [.ref b,.ref tw])=H1 at E1 ha1;have b1:=E1 _ _ hb;have t1:=E1 _ _ htw;have ok:=I.ok (R.take k);have nab:a≠b:=λe=>by rw[e,b1]at ha1;exact AObj.noConfusion (Ak ha1)
 have nat:a≠tw:=λe=>by rw[e,t1]at ha1;exact AObj.noConfusion (Ak ha1)
 refine QX ha1 ⟨show 6<7 by decide,?_⟩;refine Pv (n:=n) (m:=0) G (hrw.kp (K0.trans (.ext E1))) (R.ok r hrm) (R.nm r hrm) ok b1 λH2 k2 b2=>⟨k2 _ _ nab ha1,?_⟩
 have kp2:Kp H1 H2:=.kb b1 λa y n h=>k2 a y n h;have t2:=k2 _ _ hne t1;refine⟨show 6<7 by decide,?_⟩;refine Pv (n:=n) (m:=0+(Hl B r).2) G (hrw.kp ((K0.trans (.ext E1)).trans kp2)) (R.ok r hrm) (R.nm r hrm) ok t2 λH3 k3 t3=>⟨k3 _ _ nat (k2 _ _ nab ha1),nx _ _ ?_⟩
 have kp3:Kp H2 H3:=.kb t2 λa y n h=>k3 a y n h;have b3:=k3 _ _ hne.symm b2;have kp:=((Kp.ext E1).trans kp2).trans kp3;have htl3:=kp _ _ rfl htl;clear k2 k3 t2 b2 kp2 kp3 b1 t1 E1 ha1 nab nat;obtain⟨B',m,hm,hB',fin⟩:∃B' m,Hl B r=(B',m)/\(m=0/\B'= {B with pacts:=B.pacts++[r.pc]}/\(∀s∈r.ns,BA B s=false)\/m=1/\B'=B)/\True:=by
  unfold Hl;cases e:Hm B r with
  |ok B'=>exact⟨B',0,rfl,.inl ⟨rfl,Sv R hrm I.fk e⟩,trivial⟩
  |error e=>exact⟨B,1,rfl,.inr ⟨rfl,rfl⟩,trivial⟩
 rw[hm]at b3 t3⊢;dsimp only[BG,Bp,Av,Ad,AB,Al,An,A1,Ar,Aq];intro z hz;have E4:=Ext.refl.new (o:=.list [.ref t]) hz;have hz4:up H3 z (.list [.ref t]) z=some (.list [.ref t]):=Ah;generalize up H3 z (.list [.ref t])=H4 at E4 hz4;show match H4 z with|some (.list xs)=>_|_=>False
 rw[hz4];rcases hB' with⟨rfl,rfl,hnf⟩|⟨rfl,rfl⟩
 ·refine⟨.inr rfl,show 1<=sizeLine by decide,λz2 hz2=>?_⟩;have E5:=E4.new (o:=.list [.ref t]) hz2;refine GM (ys:=[.ref t]) (E5 _ _ htl3) Ah (by rw[length_map,hlt];show k+1<=1000;exact lt_of_lt_of_le (by assumption) (le_trans (by assumption) (by decide))) λz3 hz3=>?_;have E6:=E5.new (o:=.list ((rts.take k).map .ref++[.ref t])) hz3;exact q _ z3 (k+1) _ (kp.trans (.ext E6)) (E6 _ _ b3) (E6 _ _ t3) (I.told hrk) (N.told hnf) hk (λa y n h=>Cd (E5 _ _ (kp _ _ n h)) hz3) (by rw[Ah,B0 ht,map_append];rfl) ⟨le_succ k,le_refl _⟩
 ·refine⟨.inl rfl,show 1<=sizeLine by decide,λz2 hz2=>?_⟩;have E5:=E4.new (o:=.list []) hz2;refine GM (ys:=[]) (E5 _ _ htl3) Ah (by rw[length_map,hlt];show k+0<=1000;lia) λz3 hz3=>?_;have E6:=E5.new (o:=.list ((rts.take k).map .ref++[])) hz3;exact q _ z3 k _ (kp.trans (.ext E6)) (E6 _ _ b3) (E6 _ _ t3) I N (le_of_lt hk) (λa y n h=>Cd (E5 _ _ (kp _ _ n h)) hz3) (by rw[Ah,append_nil]) ⟨le_refl _,le_succ k⟩
end
end
section
open L13
noncomputable def Ko(cl:Int)(k:Nat)(r:Rd)(s:Str):Bool:=decide (0<(AL cl k).fmod 4)||(((AL cl k).fdiv 4).fmod 3==0&&s==((r.ps.map (·.1)).headD s))
noncomputable def DS(cl:Int)(k:Nat)(r:Rd)(B:Bk)(e:Str×Int):Bk:=if Ko cl k r e.1 then B.af (Dh B (.str e.1) (.str r.nm)) else B
noncomputable def Cy(cl:Int)(rs:List Rd):Nat->Bk->Bk
 | 0,B=>B
 |k+1,B=>match rs[k]? with
  |some r=>r.ps.foldl (DS cl k r) (Cy cl rs k B)
  |none=>Cy cl rs k B
theorem QA:Cy cl rs (k+1) B=match rs[k]? with|some r=>r.ps.foldl (DS cl k r) (Cy cl rs k B)|none=>Cy cl rs k B:=rfl
noncomputable def IT(B:Bk):Except String (Bk×List Str)->Bk
 | .ok r=>r.1
 | .error _=>B
noncomputable def Fv(cl:Int)(rs:List Rd)(B:Bk):Bk:=
 if cl.fmod 9=1 then(match rs[((cl.fdiv 9).fmod rs.length).toNat]? with|some r=>IT B (Bs B (.str r.nm))|none=>B)
 else if cl.fmod 9=2 then IT B (Ek B (.int 1)) else B
noncomputable def Hk(cl:Int)(rs:List Rd)(B:Bk):Bk:=Fv cl rs (Cy cl rs rs.length B)
theorem SV(I:Iv pur rs B)(N:NF B):Iv pur rs (B.af (Dh B (.str k) (.str nm)))/\NF (B.af (Dh B (.str k) (.str nm))):=by
 cases h:Dh B (.str k) (.str nm)with
 |ok B'=>exact⟨I.aside h,N.aside h⟩
 |error e=>exact⟨I,N⟩
theorem Q9{k:Nat}{r:Rd}{l:List (Str×Int)}(h:Iv pur rs B/\NF B):Iv pur rs (l.foldl (DS cl k r) B)/\NF (l.foldl (DS cl k r) B):=by
 induction l generalizing B with
 |nil=>exact h
 |cons e l ih=>
  refine ih ?_;unfold DS;split
  ·exact SV h.1 h.2
  ·exact h
theorem PY(h:Iv pur rs B/\NF B):Iv pur rs (Cy cl rs k B)/\NF (Cy cl rs k B):=by
 induction k with
 |zero=>exact h
 |succ k ih=>
  refine rl QA ?_;cases rs[k]? with
  |none=>exact ih
  |some r=>exact Q9 ih
theorem Yk(R:Rok pur rs)(h:Iv pur rs B/\NF B):Iv pur rs (Hk cl rs B)/\NF (Hk cl rs B):=by
 have h:=PY (cl:=cl) (k:=rs.length) h;unfold Hk Fv;generalize Cy cl rs rs.length B=B at h;split
 ·cases rs[((cl.fdiv 9).fmod rs.length).toNat]? with
  |none=>exact h
  |some r=>
   show Iv pur rs (IT B (Bs B (.str r.nm)))/\NF (IT B (Bs B (.str r.nm)));cases e:Bs B (.str r.nm)with
   |ok w=>exact⟨h.1.off R e,RI e⟩
   |error w=>exact h
 ·split
  ·cases e:Ek B (.int 1)with
   |ok w=>exact⟨h.1.pass R e,Xg (h.1.ok R) e⟩
   |error w=>exact h
  ·exact h
theorem Yl(w:Rw H t r):∃d,RD H (.ref t) d/\Fr d=true/\d.depth<=4:=by
 obtain⟨pl,gl,nl,ht,⟨us,hp,pp⟩,⟨vs,hg,pg⟩,hn⟩:=w;refine⟨_,.tuple ht (.cons (.str _) (.cons (.list hp (LO pp)) (.cons (.list hg (LO pg)) (.cons (.list hn I6) (.cons (.int _) .nil))))),?_,?_⟩
 ·show(true&&(Dr _&&(Dr _&&(Dr _&&(true&&true)))))=true;refine rl LZ (rl LZ (rl JE ?_));rfl
 ·have a:=LI (l:=P2 r.ps);have b:=LI (l:=P2 r.gs);simp only[PyData.depth,PyData.depthAll,LH];lia
theorem W5(h:Di H ts rs):∃ds,DX H (ts.map .ref) ds/\Dr ds=true/\PyData.depthAll ds<=4/\ds.length=rs.length:=by
 refine h.ind (C:=λts rs=>∃ds,DX H (ts.map .ref) ds/\Dr ds=true/\PyData.depthAll ds<=4/\ds.length=rs.length) ⟨[],.nil,rfl,zero_le _,rfl⟩ λa b as bs w ih=>e13 (Yl w) λd h1 h2 h3=>e14 ih λds h4 h5 h6 h7=>⟨d::ds,.cons h1 h4,?_,Nat.max_le.mpr ⟨h3,h6⟩,congrArg Nat.succ h7⟩
 show(Fr d&&Dr ds)=true;refine rl h2 (rl h5 ?_);rfl
set_option tactic.hygienic true in
theorem Xm(h:Di H ts rs)(ht:H tl=some (.list (ts.map .ref)))(q:∀H',Ext H H'->Q (.bool (!rs.isEmpty)) H'):∀b,H b=none->FT true (.ref tl) (.ref b) Q (up H b (.list [])):=λb hb=>by
 have E1:=Ext.refl.new (o:=.list []) hb;refine e14 (W5 (h.map λw=>w.kp (.ext E1))) λds h1 h2 h3 h4=>?_;have:=q _ E1;have ht1:=E1 _ _ ht;refine⟨.list ds,.list [],.list (E1 _ _ ht) h1,.list Ah .nil,⟨h2,by show PyData.depthAll ds+1<=64;exact lt_of_le_of_lt (by assumption) (by decide)⟩,⟨rfl,by decide⟩,?_⟩;cases ds with
 |nil=>cases rs with
  |nil=>exact this
  |cons=>trivial
 |cons d ds=>cases rs with
  |nil=>trivial
  |cons=>exact this
section
variable(G:Gd c L13.P)
include G
theorem Xz(kp:Kn H (.str p))(kn:Kn H (.str nm))(ok:BkOK B)(hb:H b=some (.book B))(q:∀v,Q v (up H b (.book (B.af (Dh B (.str p) (.str nm)))))):CallOK c (n+5) true "_law_try" [.ref b,.str p,.str nm] Q E H:=by
 have hM:c.P.meths=BK.meths:=by refine rl G.hP ?_;rfl
 refine G.call (F:=L13.ZG) rfl rfl<|Ab λK nx=>⟨rfl,Ab λK2 nx2=>?_⟩
 dsimp only[AP];refine Db hM (by decide) (by decide) hb rfl<|XL (n:=n) G U13 rfl rfl hb kp kn ok ?_;have es:Es (Dh B (.str p) (.str nm)):=Wv;cases e:Dh B (.str p) (.str nm)with
 |ok B'=>
  rw[e]at q;exact nx2 _ _ (nx _ _ (q _))
 |error cl=>
  rw[e]at q es;refine MF G es ?_;have:=q (.bool false);rw[show up H b (.book (B.af (.error cl)))=H from DB hb]at this;exact this
theorem Oc(kn:Kn H (.str nm))(hb:H b=some (.book B))(hn:BY B (.str nm)=none)(q:Q (.bool true) H):CallOK c (n+4) true "_law_refused" [.ref b,.str nm] Q E H:=by
 have hM:c.P.meths=BK.meths:=by refine rl G.hP ?_;rfl
 refine G.call (F:=L13.ZM) rfl rfl ?_;show Af _ _ _ _ _ [some (.ref b),some (.str nm)] _;refine Ab λK nx=>?_;dsimp only[Dq];refine⟨rfl,Ab λK2 nx2=>?_⟩;dsimp only[AP];refine Db hM (by decide) (by decide) hb rfl ?_;dsimp only[Al,An,Ad];refine Vq (n:=n) G U13 rfl hb kn hn ?_;dsimp only[LY,MN];refine rl (if_pos ?_) ?_
 ·show Gl c.P "NoPact" "NoPact"=true;refine rl G.hP ?_;decide +kernel
 ·exact q
end
end
section
open L13
theorem PQ{H:Ac}{us:List Addr}{l:List (Str×Int)}{j:Nat}{u:Addr}(h:pairsH H us (P2 l))(hu:us[j]? =some u):∃e,l[j]? =some e/\H u=some (.tuple [.str e.1,.int e.2]):=by
 refine e14 (Jt h hu) λe he _ htt _=>?_;unfold P2 at he;rw[getElem?_map,map_eq_some_iff]at he;obtain⟨e',he',rfl⟩:=he;exact⟨e',he',htt⟩
section
variable{g:Gx}{V:VV}{Q:AV->Ac->Prop}{E:String->Ac->Prop}{H:Ac}{tl t:Addr}{ts:List Addr}{r:Rd}{k:Nat}{cl:Int}{s:Str}
set_option tactic.hygienic true in
theorem Mv{j:Nat}(hv1:V[1]? =some (some (.ref tl)))(hv3:V[3]? =some (some (.int k)))(htl:H tl=some (.list (ts.map .ref)))(ht:ts[k]? =some t)(hl:ts.length<=60)(htt:H t=some (.tuple xs))(hx:xs.length<=1000)(hj:xs[j]? =some v)(q:Q v H):Aj g (.sub (.sub (.var 1) (.var 3)) (.lit (.int j))) V Q E H:=by
 dsimp only[Au,Ad,Aq];refine rl hv1 (rl hv3 (Dt (v:=.ref t) htl (by refine rl (getElem?_map ..) (rl (ht ..) ?_);rfl) (rl (length_map ..) (le_trans (by assumption) (by decide))) ?_));exact FH htt hj hx q
set_option tactic.hygienic true in
theorem Sj(hv1:V[1]? =some (some (.ref tl)))(hv3:V[3]? =some (some (.int k)))(hv4:V[4]? =some (some (.int (AL cl k))))(hv5:V[5]? =some (some (.str s)))(htl:H tl=some (.list (ts.map .ref)))(ht:ts[k]? =some t)(hl:ts.length<=60)(hr:Rw H t r)(h1:1<=r.ps.length)(h8:r.ps.length<=100)(q:Q (.bool (Ko cl k r s)) H) :
  Aj g (.ao false [(.cmp .Gt (.bin .Mod (.var 4) (.lit (.int 4))) (.lit (.int 0))),(.ao true [(.cmp .Eq (.bin .Mod (.bin .FloorDiv (.var 4) (.lit (.int 4))) (.lit (.int 3))) (.lit (.int 0))),(.cmp .Eq (.var 5) (.sub (.sub (.sub (.sub (.var 1) (.var 3)) (.lit (.int 1))) (.lit (.int 0))) (.lit (.int 0))))])]) V Q E H:=by
 unfold Ko at q;dsimp only[Am,AQ,AT,Ar,Av,Ad,Aq];refine rl hv4 (rl hv5 ?_);dsimp only[B7,BW,Bw,Az,AD];refine⟨by decide,?_⟩;cases e1:decide (0<(AL cl k).fmod 4)with
 |true=>rw[e1]at q;exact q
 |false=>
  rw[e1]at q;refine rl (if_pos rfl) ⟨by decide,by decide,?_⟩;cases e2:((AL cl k).fdiv 4).fmod 3==0 with
  |false=>rw[e2]at q;exact q
  |true=>
   rw[e2]at q;refine rl (if_pos rfl) ?_;obtain⟨pl,gl,nl,htt,⟨us,hp,pp⟩,_,_⟩:=hr;have lu:=G5 pp;rw[FG]at lu;obtain⟨u,us',rfl⟩:∃u us',us=u::us':=by
    cases us with
    |nil=>rw[<-lu]at h1;trivial
    |cons a l=>exact⟨a,l,rfl⟩
   refine e12 (PQ (j:=0) pp rfl) λe he hu=>rl Au (rl Au (Mv (j:=1) hv1 hv3 htl ht hl htt (show 5<=1000 by decide) rfl (Dt (j:=0) hp rfl (rl (length_map ..) (rl (lu ..) (le_trans (by assumption) (by decide)))) (FJ hu ?_))));cases hps:r.ps with
   |nil=>rw[hps]at h1;trivial
   |cons e' l=>
    rw[hps]at q he;obtain rfl:=Ak he;exact q
end
noncomputable def Q8:List S:=[.ite (.ao false [(.cmp .Gt (.bin .Mod (.var 4) (.lit (.int 4))) (.lit (.int 0))),(.ao true [(.cmp .Eq (.bin .Mod (.bin .FloorDiv (.var 4) (.lit (.int 4))) (.lit (.int 3))) (.lit (.int 0))),(.cmp .Eq (.var 5) (.sub (.sub (.sub (.sub (.var 1) (.var 3)) (.lit (.int 1))) (.lit (.int 0))) (.lit (.int 0))))])]) [.expr (.call "_law_try" [(.var 0),(.var 5),(.sub (.sub (.var 1) (.var 3)) (.lit (.int 0)))])] []]
inductive Ri(H:Ac)(b tl:Addr)(v2 v3 v4:Option AV)(f:Bk->(Str×Int)->Bk)(B:Bk)(l:List (Str×Int))(j:Nat)(V':VV)(H':Ac):Prop
 |mk (p5 p6:Option AV) (hV:V'=[some (.ref b),some (.ref tl),v2,v3,v4,p5,p6]) (hK:Kb b H H') (hb:H' b=some (.book ((l.take j).foldl f B)))
inductive Rj(H:Ac)(b tl:Addr)(v2:Option AV)(cl:Int)(rs:List Rd)(B:Bk)(z:Addr)(k:Nat)(V':VV)(H':Ac):Prop
 |mk (p3 p4 p5 p6:Option AV) (hV:V'=[some (.ref b),some (.ref tl),v2,p3,p4,p5,p6]) (hK:Kb b H H') (hb:H' b=some (.book (Cy cl rs k B))) (hz:H' z=some (.range 0 rs.length))
section
variable{c:Cx}(G:Gd c L13.P){n:Nat}{Q:AV->Ac->Prop}{E:String->Ac->Prop}{QN:VV->Ac->Prop}{QR:AV->Ac->Prop}{EE:String->VV->Ac->Prop}{H H0:Ac}{b tl t:Addr}{B:Bk}{pur:List Str}{rs:List Rd}{ts:List Addr}{r:Rd}{k:Nat}{cl:Int}{v2 v5 v6:Option AV}
include G
theorem Vd(R:Rok pur rs)(I:Iv pur rs B/\NF B)(hrm:r∈rs)(hb:H b=some (.book B))(htl:H tl=some (.list (ts.map .ref)))(ht:ts[k]? =some t)(hl:ts.length<=60)(hr:Rw H t r)
  (q:∀H' p5 p6,Kb b H H'->H' b=some (.book (r.ps.foldl (DS cl k r) B))->QN [some (.ref b),some (.ref tl),v2,some (.int k),some (.int (AL cl k)),p5,p6] H') :
  A4 ⟨c,n+5,true⟩ (.for (.tup [5,6]) (.sub (.sub (.var 1) (.var 3)) (.lit (.int 1))) Q8) QN QR EE [some (.ref b),some (.ref tl),v2,some (.int k),some (.int (AL cl k)),v5,v6] H:=by
 have rok:=R.ok r hrm;have hr':=hr;obtain⟨pl,gl,nl,htt,⟨us,hp,pp⟩,_,_⟩:=hr;have lu:=G5 pp;rw[FG]at lu;refine⟨rfl,Mv (j:=1) rfl rfl htl ht hl htt (show 5<=1000 by decide) rfl (CD (xs:=us.map .ref) (Bu hp) (Ri H b tl v2 (some (.int k)) (some (.int (AL cl k))) (DS cl k r) B r.ps) ⟨_,_,rfl,.refl,hb⟩ ?_)⟩;rintro J hJ j V' H' ⟨p5,p6,rfl,hK,hb'⟩;have kp:=Kp.kb hb hK;refine⟨(kp _ _ rfl hp).trans hp.symm,λhj=>?_,λy hy=>?_⟩
 ·rw[hj,length_map,lu,take_length]at hb';exact q H' _ _ hK hb'
 ·rw[getElem?_map,map_eq_some_iff]at hy;obtain⟨u,hu,rfl⟩:=hy;refine e12 (PQ pp hu) λe he hut=>?_;have hem:=mem_of_getElem? he;show match H' u with|some (.tuple xs)=>_|some (.list xs)=>_|_=>False
  refine rl (kp _ _ rfl hut) ⟨rfl,?_⟩;show Af _ Q8 _ _ _ [some (.ref b),some (.ref tl),v2,some (.int k),some (.int (AL cl k)),some (.str e.1),some (.int e.2)] _;have step:∀H'',Kb b H' H''->H'' b=some (.book (DS cl k r ((r.ps.take j).foldl (DS cl k r) B) e))->J (j+1) [some (.ref b),some (.ref tl),v2,some (.int k),some (.int (AL cl k)),some (.str e.1),some (.int e.2)] H'':=λH'' k'' h=>hJ _ _ _ ⟨_,_,rfl,hK.trans k'',by refine rl (B0 he) (rl foldl_append ?_);exact h⟩;have I':=Q9 (cl:=cl) (k:=k) (r:=r) (l:=r.ps.take j) I;generalize(r.ps.take j).foldl (DS cl k r) B=B' at hb' step I';refine Ab λK nx=>Sj (cl:=cl) (r:=r) rfl rfl rfl rfl (kp _ _ rfl htl) ht hl (hr'.kp kp) rok.p.l.1 (le_trans rok.p.l.2 (by decide)) ?_;dsimp only[Az];cases hc:Ko cl k r e.1 with
  |false=>
   refine nx _ _ (step H' .refl ?_);unfold DS;refine rl hc ?_;exact hb'
  |true=>
   refine rl (if_pos rfl)<|Ab λK2 nx2=>?_;dsimp only[AP,A6,Al,An,Ad];show Aj _ (.sub (.sub (.var 1) (.var 3)) (.lit (.int 0))) _ _ _ _;refine Mv (j:=0) rfl rfl (kp _ _ rfl htl) ht hl (kp _ _ rfl htt) (show 5<=1000 by decide) rfl<|Xz (n:=n) G (Kv.nm (R.pn _ (rok.p.m e hem).1)).kn (Kv.nm (R.nm r hrm)).kn (I'.1.ok R) hb' λv=>nx2 _ _ (nx _ _ (step _ .up ?_));refine rl Ah ?_;unfold DS;refine rl hc ?_;rfl
set_option tactic.hygienic true in
theorem Uw(R:Rok pur rs)(I:Iv pur rs B/\NF B)(hb:H b=some (.book B))(htl:H tl=some (.list (ts.map .ref)))(hR:Di H0 ts rs)(K0:Kp H0 H)
  (q:∀v H',Kb b H H'->H' b=some (.book (Fv cl rs B))->Q v H'):Af ⟨c,n+5,true⟩ (L13.Z2.body.drop 1) QN Q EE [some (.ref b),some (.ref tl),some (.int cl),v3,v4,v5,v6] H:=by
 have hM:c.P.meths=BK.meths:=by refine rl G.hP ?_;rfl
 have hlr:=hR.len;have hl60:rs.length<=60:=R.len;have two:∀{H':Ac},cl.fmod 9≠2->Q (.bool true) H'->Af ⟨c,n+5,true⟩ (L13.Z2.body.drop 2) QN Q EE [some (.ref b),some (.ref tl),some (.int cl),v3,v4,v5,v6] H':=λ{H'} h hq=>by
  refine Ab λK nx=>?_;dsimp only[A7];dsimp only[Ar,Aq,Av,Ad,getElem?_cons_succ,Aw,B7,ne_eq,AD,Az,beq_iff_eq];refine⟨by decide,?_⟩;exact rl (if_neg (λz=>h (beq_iff_eq.mp z)))<|nx _ _ hq
 unfold Fv at q;refine Ab λK nx=>?_;dsimp only[A7];dsimp only[Am,AQ,AT,Ar,AB,An,Ad,getElem?_cons_succ,Aw,Aq,Av,B7,ne_eq,AD,Az,beq_iff_eq];refine⟨by decide,?_⟩;by_cases h1:cl.fmod 9=1
 ·rw[if_pos h1]at q;refine rl (if_pos (beq_iff_eq.mpr h1)) ?_;have h2:cl.fmod 9≠2:=by refine rl h1 ?_;decide
  dsimp only[Gp];refine Xm (GN hR K0) htl λH1 E1=>?_;dsimp only[Az];cases rs with
  |nil=>exact nx _ _ (two h2 (q _ H1 (.ext E1) (E1 _ _ hb)))
  |cons r0 rs0=>
   refine rl (if_pos rfl) ?_;generalize hrs:r0::rs0=rs at*;have hpos:0<rs.length:=by exact rl hrs.symm (succ_pos _)
   have a0:=BD (x:=cl.fdiv 9) (m:=rs.length) (ofNat_lt.mpr hpos);have a1:=BV (x:=cl.fdiv 9) (m:=rs.length) (ofNat_lt.mpr hpos);have hlt:((cl.fdiv 9).fmod rs.length).toNat<rs.length:=(Int.toNat_lt a0).mpr a1;refine e12 (hR.getR (getElem?_eq_getElem hlt)) λt ht hrw=>?_;have hrk:=getElem?_eq_getElem hlt;rw[hrk]at q;generalize rs[((cl.fdiv 9).fmod rs.length).toNat]=r at hrk hrw q;have q:∀v H',Kb b H H'->H' b=some (.book (IT B (Bs B (.str r.nm))))->Q v H':=q;have hrm:=mem_of_getElem? hrk;have hrw1:=hrw.kp (K0.trans (.ext E1));refine Ab λK2 nx2=>⟨rfl,Ab λK3 nx3=>?_⟩
   dsimp only[AP];refine Db hM (by decide) (by decide) (E1 _ _ hb) rfl ?_;dsimp only[String.reduceAppend,Al,An,Au,Aq,Av,A1,Ad,getElem?_cons_succ,Aw,BW,ne_eq];refine⟨by decide,?_⟩;refine El (E1 _ _ htl) (rl (length_map ..) (rl (hlr ..) (le_trans (by assumption) (by decide))))<|rl (length_map ..) (rl (hlr ..) ⟨by lia,?_⟩);have:=Dt (H:=H1) (Q:=λv H=>A8 v (.int 0) (λw H=>CallOK c (n+5) true "Book.call_off" [.ref b,w] (λ_ H=>K3 [some (.ref b),some (.ref tl),some (.int cl),v3,v4,v5,v6] H) (λcl_1 H=>Da ⟨c,n+5,true⟩ [.mk "BookError" none [.ret (.lit (.bool false))]] cl_1 K2 Q EE [some (.ref b),some (.ref tl),some (.int cl),v3,v4,v5,v6] H) H) H) (j:=((cl.fdiv 9).fmod rs.length).toNat) (v:=.ref t) (E1 _ _ htl) (by refine rl (getElem?_map ..) (rl (ht ..) ?_);rfl) (rl (length_map ..) (rl (hlr ..) (le_trans (by assumption) (by decide))));rw[toNat_of_nonneg a0]at this;refine this ?_;obtain⟨pl,gl,nl,htt,_⟩:=hrw1;refine FH (j:=0) htt rfl (show 5<=1000 by decide)<|SL (n:=n+1) G U13 rfl rfl rfl rfl rfl (E1 _ _ hb) (I.1.ok R) (Kv.nm (R.nm r hrm)).kn ?_;have es:Es (Bs B (.str r.nm)):=RH;cases e:Bs B (.str r.nm)with
   |ok w=>
    rw[e]at q;intro z hz;refine nx3 _ _ (nx2 _ _ (nx _ _ (two h2 (q _ _ (λa x n h=>?_) ?_))))
    ·exact rl (Ag (Cd (E1 _ _ h) hz)) (rl (Ag n) (E1 _ _ h))
    ·exact rl (Ag (Cd (E1 _ _ hb) hz)) Ah
   |error e'=>
    rw[e]at q es;exact MF G es (q _ H1 (.ext E1) (E1 _ _ hb))
 ·rw[if_neg h1]at q;have z:¬ (cl.fmod 9==1)=true:=λz=>h1 (beq_iff_eq.mp z);refine rl (if_neg z) (rl (if_neg z) (nx _ _ (Ab λK nx=>?_)));dsimp only[A7];dsimp only[Ar,Aq,Av,Ad,getElem?_cons_succ,Aw,B7,ne_eq,AD,Az,beq_iff_eq];refine⟨by decide,?_⟩;by_cases h2:cl.fmod 9=2
  ·rw[if_pos h2]at q;refine rl (if_pos (beq_iff_eq.mpr h2))<|Ab λK2 nx2=>?_;dsimp only[AP];refine Db hM (by decide) (by decide) hb rfl<|Yo (n:=n+1) G U13 rfl rfl rfl rfl rfl hb (I.1.ok R) Kv.int.kn ?_;rw[show Ek B (.int 1) = .ok (Rh B 1) from if_pos ⟨rfl,by decide⟩]at q⊢;intro z hz;refine nx2 _ _ (nx _ _ (q _ _ (λa x n h=>?_) ?_))
   ·exact rl (Ag (Cd h hz)) (rl (Ag n) h)
   ·exact rl (Ag (Cd hb hz)) Ah
  ·rw[if_neg h2]at q;exact rl (if_neg (λz=>h2 (beq_iff_eq.mp z)))<|nx _ _ (q _ H .refl hb)
set_option tactic.hygienic true in
theorem Pl(R:Rok pur rs)(I:Iv pur rs B/\NF B)(hb:H b=some (.book B))(htl:H tl=some (.list (ts.map .ref)))(hR:Di H0 ts rs)(K0:Kp H0 H)
  (q:∀v H',Kb b H H'->H' b=some (.book (Hk cl rs B))->Q v H'):CallOK c (n+6) true "_law_round" [.ref b,.ref tl,.int cl] Q E H:=by
 have hM:c.P.meths=BK.meths:=by refine rl G.hP ?_;rfl
 have hlr:=hR.len;have hl60:ts.length<=60:=by exact rl hlr R.len
 refine G.call (F:=L13.Z2) rfl rfl<|Ab λK nx=>?_;dsimp only[BX,A1,Al,An,Ad];refine⟨rfl,?_⟩;show BS _ .len [.ref tl] _ _;refine El htl (rl (length_map ..) (le_trans (by assumption) (by decide)))<|rl (length_map ..) (rl (hlr ..) ?_);have hl60':rs.length<=60:=R.len;refine Gn (natCast_nonneg _) (by exact ofNat_le.mpr (le_trans (by assumption) (by decide))) λz H1 hz E1 hr=>IH hr (Rj H b tl (some (.int cl)) cl rs B z) ⟨_,_,_,_,rfl,.ext E1,E1 _ _ hb,hr⟩ ?_;rintro J hJ k V' H' ⟨p3,p4,p5,p6,rfl,hK,hb',hz'⟩;have kp:=Kp.kb hb hK;have I':=PY (cl:=cl) (k:=k) I;refine⟨hz',λhk=>nx _ _ ?_,λhk=>?_⟩
 ·rw[toNat_natCast]at hk;rw[hk]at hb' I';unfold Hk at q;generalize Cy cl rs rs.length B=B' at hb' I' q;exact Uw (n:=n) G R I' hb' (kp _ _ rfl htl) hR (K0.trans kp) λv H2 K2 b2=>q v H2 (hK.trans K2) b2
 ·rw[toNat_natCast]at hk;refine e12 (hR.getR (getElem?_eq_getElem hk)) λt ht hrw=>?_;have hrk:=getElem?_eq_getElem hk;generalize rs[k]=r at hrk hrw;refine⟨show 3<7 by decide,?_⟩;refine Ab λK nx=>?_;dsimp only[At,A6,Al,An,Ad];refine Ii G rfl ⟨show 4<7 by decide,nx _ _ ?_⟩;refine Ab λK nx=>Vd (n:=n) (cl:=cl) (r:=r) (t:=t) G R I' (mem_of_getElem? hrk) hb' (kp _ _ rfl htl) ht hl60 (hrw.kp (K0.trans kp)) λH2 q5 q6 K2 b2=>nx _ _ (hJ _ _ _ ⟨_,_,_,_,rfl,hK.trans K2,?_,?_⟩)
  ·refine rl QA ?_;exact rl hrk b2
  ·exact K2 _ _ (λe=>by rw[e,hb']at hz';exact AObj.noConfusion (Ak hz')) hz'
end
end
section
open L13
theorem PL.nil(h:H a=some (.list [])):PL H a []:=⟨[],h,trivial⟩
theorem PL.snoc(p:PL H z ps)(ht:H t=none)(kk:Kv (.str k))(Q:AV->Ac->Prop)(hl:ps.length<=1000)(q:∀H',PL H' z (ps++[(k,i)])->(∀H0,H0 z=none->Ext H0 H->Ext H0 H')->(∀a x,a≠z->H a=some x->H' a=some x)->Q .none H'):FS (.ref z) .append [.ref t] Q (up H t (.tuple [.str k,.int i])):=by
 obtain⟨ts,h,p⟩:=p;have E1:=Ext.refl.new (o:=.tuple [AV.str k,.int i]) ht;have htz:t≠z:=(Cd h ht).symm;refine DJ (E1 _ _ h) (rl (length_map ..) (rl (G5 p ..) (rl (FG ..) (le_trans hl (by decide))))) (q _ ⟨ts++[t],?_,?_⟩ (λH0 h0 e=>(e.trans E1).own h0) λa x ha hx=>by exact rl (Ag ha ..) (E1 _ _ hx))
 ·refine rl Ah (rl map_append ?_);rfl
 ·show pairsH _ _ ((ps++[(k,i)]).map _);refine rl map_append<|NV (by exact rl (Ag htz) Ah) kk Kv.int ((p.ext E1).keep λa v hv=>?_);refine rl (Ag (λe=>by rw[e,E1 _ _ h]at hv;cases hv)) ?_;exact hv
section
variable{pur:List Str}
noncomputable def BZ(pur:List Str)(cl:Int)(k:Nat):List (Str×Int):=(List.range k).map λj=>(Cc pur (cl.fdiv 120) j,1+(cl.fdiv 3).fmod 20+3*(j:Int))
noncomputable def CA(pur:List Str)(r t:Int)(k:Nat):List (Str×Int):=(Cc pur r 0,t - k)::(List.range k).map λj=>(Cc pur r (j+1),1)
theorem Uz:BZ pur c (k+1)=BZ pur c k++[(Cc pur (c.fdiv 120) k,1+(c.fdiv 3).fmod 20+3*(k:Int))]:=by
 unfold BZ;refine rl range_succ (rl map_append ?_);rfl
theorem UP:CA pur c t (k+1)=(Cc pur c 0,t - k - 1)::(List.range k).map (λj=>(Cc pur c (j+1),(1:Int)))++[(Cc pur c (k+1),1)]:=by
 unfold CA;refine rl range_succ (rl map_append (rl (show t - ((k+1:Nat):Int)=t - k - 1 by lia) ?_));rfl
theorem U0:(BZ pur c k).map (·.1)=FP pur (c.fdiv 120) k:=by unfold BZ FP;refine rl map_map ?_;rfl
theorem OC:(CA pur c t k).map (·.1)=FP pur c (k+1):=by
 induction k with
 |zero=>rfl
 |succ k ih=>
  refine rl PN (rl ih.symm (rl UP (rl map_append ?_)));rfl
theorem J9:(BZ pur c k).length=k:=by unfold BZ;exact rl (length_map ..) (rl (length_range ..) rfl)
theorem VE:(CA pur c t k).length=k+1:=by unfold CA;exact rl (length_cons ..) (rl (length_map ..) (rl (length_range ..) rfl))
theorem Vx:Bj (l++l')=Bj l+Bj l':=by unfold Bj;exact rl map_append (rl List.sum_append rfl)
theorem VD:Bj (CA pur c t k)=t:=by
 show(t - k)+Bj ((List.range k).map λj=>(Cc pur c (j+1),(1:Int)))=t;have:Bj ((List.range k).map λj=>(Cc pur c (j+1),(1:Int)))=k:=by
  induction k with
  |zero=>rfl
  |succ k ih=>refine rl range_succ (rl map_append (rl Vx (rl ih ?_)));rfl
 refine rl this ?_;lia
theorem QD(h:e∈BZ pur c k)(hk:k<=8)(h0:0<pur.length):e.1∈pur/\1<=e.2/\e.2<=100:=by
 refine e12 (mem_map.mp h) λj hj z02=>?_;obtain rfl:=z02;have hj:=mem_range.mp hj;have b0:=BD (x:=c.fdiv 3) (m:=20) (by decide);have b1:=BV (x:=c.fdiv 3) (m:=20) (by decide);exact⟨J6 h0,show 1<=1+(c.fdiv 3).fmod 20+3*(j:Int) by lia,show 1+(c.fdiv 3).fmod 20+3*(j:Int)<=100 by lia⟩
theorem XU(h:∀e∈l,1<=e.2/\e.2<=100):(l.length:Int)<=Bj l/\Bj l<=100*(l.length:Int):=by
 induction l with
 |nil=>exact⟨Int.le_refl 0,Int.le_refl 0⟩
 |cons e l ih=>
  have h1:=h e (.head _);have h2:=ih λx hx=>h x (.tail _ hx);show _<=e.2+Bj l/\e.2+Bj l<=_;refine rl length_cons ?_;lia
theorem WA(nd:pur.Nodup)(h0:0<pur.length)(h1:1<=k)(h8:k<=8)(hk:k<=pur.length):DW pur (BZ pur c k):=
 ⟨by refine rl U0 ?_;exact OZ nd hk,λe he=>have:=QD he h8 h0;⟨this.1,this.2.1,Int.le_trans this.2.2 (by decide)⟩,by refine rl J9 ?_;exact⟨h1,h8⟩⟩
theorem XA(nd:pur.Nodup)(h0:0<pur.length)(h8:k+1<=8)(hk:k+1<=pur.length)(ht:(k:Int)+1<=t)(ht':t<=1000):DW pur (CA pur c t k):=by
 refine⟨by rw[OC];exact OZ nd hk,λe he=>⟨XI h0 (by rw[<-OC (t:=t)];exact mem_map.mpr ⟨e,he,rfl⟩),?_⟩,by rw[VE];exact⟨Nat.le_add_left 1 k,h8⟩⟩;rcases mem_cons.mp he with rfl|he
 ·exact⟨show 1<=t - k by lia,show t - k<=_ by lia⟩
 ·refine e12 (mem_map.mp he) λj _ z12=>?_;obtain rfl:=z12;exact⟨Int.le_refl 1,show(1:Int)<=1000000000000000000000000000000 by decide⟩
end
theorem LN(h:H pu=some (.list (Ae pur)))(p0:0<pur.length)(p1:pur.length<=100)(q:Q (.str (Cc pur x j)) H):A8 (.ref pu) (.int ((x+j).fmod pur.length)) Q H:=by
 have h0:=BD (x:=x+j) (m:=pur.length) (ofNat_lt.mpr p0);exact rl (Eq.symm (toNat_of_nonneg h0)) (JJ h (JI p0) (le_trans p1 (by decide)) q)
inductive Pa(H:Ac)(v0 v1 v2 v3 v4:Option AV)(pur:List Str)(cl m:Int)(z zr:Addr)(k:Nat)(V':VV)(H':Ac):Prop
 |mk (p6:Option AV) (hV:V'=[v0,v1,v2,v3,v4,some (.ref z),p6,none,none,none,none,none,none]) (hE:Ext H H') (hz:PL H' z (BZ pur cl k)) (hr:H' zr=some (.range 0 m))
inductive Na(H:Ac)(v0 v1 v3 v4 v5 v7 v9 v11:Option AV)(wd zn zr:Addr)(m:Int)(own:Str)(wds:List Str)(k:Nat)(V':VV)(H':Ac):Prop
 |mk (p6 p12:Option AV) (r:Int) (ns:List Str) (hV:V'=[v0,v1,some (.ref wd),v3,v4,v5,p6,v7,some (.int r),v9,some (.ref zn),v11,p12]) (hE:Ext H H') (hz:H' zn=some (.list (Ae ns))) (hl:ns.length<=k) (nn:(own::ns).Nodup) (kk:∀s∈ns,s∈wds) (hr:H' zr=some (.range 0 m))
set_option tactic.hygienic true in
theorem XB(hpu:H pu=some (.list (Ae pur)))(p0:2<=pur.length)(p1:pur.length<=100)(np:∀s∈pur,A9 s=true)(t0:1<=t)
  (q:∀H' zg k,Ext H H'->PL H' zg (CA pur r t k)->k+1<=2->(k:Int)+1<=t->Af g (L13.Zr.body.drop 7) QN Q EE [v0,some (.ref pu),v2,v3,some (.int pur.length),v5,v6,some (.int t),some (.int r),some (.ref zg),none,none,none] H') :
  Af g (L13.Zr.body.drop 5) QN Q EE [v0,some (.ref pu),v2,v3,some (.int pur.length),v5,v6,some (.int t),some (.int r),none,none,none,none] H:=by
 have pp:0<pur.length:=lt_of_lt_of_le (by decide) p0;have ct0:(0:Int)<(pur.length:Nat):=ofNat_lt.mpr pp;have kr:∀j,Kv (.str (Cc pur r j)):=λj=>Kv.nm (np _ (J6 pp));have r0:∀{Q:AV->Ac->Prop} {H:Ac},H pu=some (.list (Ae pur))->Q (.str (Cc pur r 0)) H->A8 (.ref pu) (.int (r.fmod pur.length)) Q H:=λ{Q H} h q=>by
  have:=LN (x:=r) (j:=0) (Q:=Q) h pp p1 q;rw[show r+((0:Nat):Int)=r from add_zero r]at this;exact this
 refine Ab λK nx=>?_;dsimp only[At,tv,length_cons,length_nil,Nat.reduceAdd,set_cons_succ,set_cons_zero,AB,Al,An,AN,Ad,getElem?_cons_succ,Aw,Au,Av,B7,ne_eq];refine⟨Int.ne_of_gt ct0,r0 hpu ?_⟩;intro t1 ht1 z1 hz1;have E4:=(Ext.refl.new (o:=.tuple [.str (Cc pur r 0),.int t]) ht1).new (o:=.list [.ref t1]) hz1;have g4:PL (up (up H t1 (.tuple [.str (Cc pur r 0),.int t])) z1 (.list [.ref t1])) z1 (CA pur r t 0):=⟨[t1],Ah,⟨⟨rfl,by refine rl (show t - ((0:Nat):Int)=t from sub_zero t) ?_;exact CW Ah hz1,kr 0,Kv.int⟩,trivial⟩⟩
 refine⟨by decide,nx _ _ ?_⟩;generalize up (up H t1 (.tuple [.str (Cc pur r 0),.int t])) z1 (.list [.ref t1])=H4 at E4 g4;clear hz1 ht1;refine Ab λK nx=>?_;have one:K [v0,some (.ref pu),v2,v3,some (.int pur.length),v5,v6,some (.int t),some (.int r),some (.ref z1),none,none,none] H4:=nx _ _ (q H4 z1 0 E4 g4 (by decide) (by assumption));dsimp only[A7];dsimp only[Am,AQ,AT,Ar,Aq,Ad,getElem?_cons_succ,Aw,Bw,Az,decide_eq_true_eq,Av,BW,ne_eq,B7,AD,beq_iff_eq];refine⟨by decide,by decide,?_⟩;split
 ·split
  ·rename_i h2;have ht:1<t:=of_decide_eq_true h2;refine Ab λK2 nx2=>?_;dsimp only[At,tv,length_cons,length_nil,Nat.reduceAdd,set_cons_succ,set_cons_zero,AB,Al,An,AN,Aq,Au,Av,Ad,getElem?_cons_succ,Aw,C7,B7,ne_eq,De];refine⟨Int.ne_of_gt ct0,r0 (E4 _ _ hpu) ?_⟩;intro t2 ht2;refine⟨Int.ne_of_gt ct0,?_⟩;have E5:=Ext.refl.new (o:=.tuple [.str (Cc pur r 0),.int (t - 1)]) ht2;have h5:up H4 t2 (.tuple [.str (Cc pur r 0),.int (t - 1)]) t2=some (.tuple [.str (Cc pur r 0),.int (t - 1)]):=Ah;generalize up H4 t2 (.tuple [.str (Cc pur r 0),.int (t - 1)])=H5 at E5 h5;refine LN (x:=r) (j:=1) (E5 _ _ (E4 _ _ hpu)) pp p1 ?_;intro t3 ht3 z3 hz3;have E6:=(Ext.refl.new (o:=.tuple [.str (Cc pur r 1),.int 1]) ht3).new (o:=.list [.ref t2,.ref t3]) hz3;refine⟨by decide,nx2 _ _ (nx _ _ (q _ z3 1 ((E4.trans E5).trans E6) ⟨[t2,t3],Ah,⟨rfl,E6 _ _ h5,kr 0,Kv.int⟩,⟨rfl,CW Ah hz3,kr 1,Kv.int⟩,trivial⟩ (by decide) (by assumption)))⟩
  ·exact one
 ·exact one
end
section
open L13
section
set_option tactic.hygienic true in
theorem Xl(hmd:g.md=true)(hwd:H wd=some (.list (Ae wds)))(w0:0<wds.length)(w1:wds.length<=100)
  (q:∀H' t zn ns last,Ext H H'->H' zn=some (.list (Ae ns))->H' t=some (.tuple [.str own,.ref z,.ref zg,.ref zn,.int last])->(own::ns).Nodup->(∀s∈ns,s∈wds)->ns.length<=8->0<=last->Q (.ref t) H') :
  Af g (L13.Zr.body.drop 7) QN Q EE [v0,v1,some (.ref wd),some (.str own),v4,some (.ref z),v6,v7,some (.int r),some (.ref zg),none,none,none] H:=by
 refine Ab λK nx=>?_;dsimp only[At,tv,length_cons,length_nil,Nat.reduceAdd,set_cons_succ,set_cons_zero,Av,Aq,Ad,getElem?_cons_succ,Aw,BW,ne_eq];refine⟨by decide,by decide,nx _ _ ?_⟩;generalize r.fdiv 24=r;refine Ab λK nx=>?_;dsimp only[At,tv,length_cons,length_nil,Nat.reduceAdd,set_cons_succ,set_cons_zero,AB,An];intro zn hzn;refine⟨by decide,nx _ _ ?_⟩;have E6:=Ext.refl.new (o:=.list (Ae [])) hzn;have hn6:up H zn (.list (Ae [])) zn=some (.list (Ae [])):=Ah;refine rl (show(AObj.list []) = .list (Ae []) from rfl) ?_;generalize up H zn (.list (Ae []))=H6 at E6 hn6;refine Ab λK nx=>?_;dsimp only[At,tv,length_cons,length_nil,Nat.reduceAdd,set_cons_succ,set_cons_zero,Av,Aq,Ad,getElem?_cons_succ,Aw,B7,ne_eq];refine⟨by decide,by decide,nx _ _ ?_⟩;refine Ab λK nx=>?_
 suffices go:∀sz:Int,0<=sz->sz<=8->K [v0,v1,some (.ref wd),some (.str own),v4,some (.ref z),v6,v7,some (.int r),some (.ref zg),some (.ref zn),some (.int sz),none] H6 by
  have a0:=BD (x:=r) (m:=4) (by decide);have a1:=BV (x:=r) (m:=4) (by decide);have b0:=BD (x:=r.fdiv 20) (m:=9) (by decide);have b1:=BV (x:=r.fdiv 20) (m:=9) (by decide);dsimp only[A7];dsimp only[Ar,Aq,Av,Ad,getElem?_cons_succ,Aw,BW,ne_eq,B7,AD,Az,beq_iff_eq];refine⟨by decide,by decide,?_⟩;split
  ·dsimp only[BG,Ci,At,tv,length_cons,length_nil,Nat.reduceAdd,set_cons_succ,set_cons_zero,Av,Aq,Ad,getElem?_cons_succ,Aw,BW,ne_eq,B7];exact⟨by decide,by decide,by decide,go _ b0 (Hw b1)⟩
  ·exact go _ a0 (by lia)
 intro sz s0 s8;refine nx _ _<|Ab λK nx=>?_;dsimp only[At,tv,length_cons,length_nil,Nat.reduceAdd,set_cons_succ,set_cons_zero,Av,Aq,Ad,getElem?_cons_succ,Aw,BW,ne_eq];refine⟨by decide,by decide,nx _ _ ?_⟩;generalize r.fdiv 180=r;refine Ab λK nx=>⟨hmd,?_⟩
 dsimp only[A1,B_,Al,An,Ad,getElem?_cons_succ,Aw];refine Gn s0 (by exact Int.le_trans (by assumption) (by decide)) λzr2 H7 hzr2 E7 hr2=>IH hr2 (Na H _ _ _ _ _ _ _ _ wd zn zr2 sz own wds) ⟨_,_,r,[],rfl,E6.trans E7,E7 _ _ hn6,le_refl _,nodup_cons.mpr ⟨not_mem_nil,nodup_nil⟩,(λs hs=>by trivial),hr2⟩ ?_;rintro I hI k V' H' ⟨p7',p12,r',ns,rfl,hE',hzn',hl',nn',kk',hr'⟩;refine⟨hr',λhk=>?_,λhk=>?_⟩
 ·refine nx _ _ ?_;dsimp only[BG,Ci,Bp,AN,Al,An,Av,Aq,Ad,getElem?_cons_succ,Aw,BW,ne_eq,B7];refine⟨by decide,by decide,λt ht=>?_⟩;exact q _ t zn ns _ (hE'.new ht) (CW hzn' ht) Ah nn' kk' (Ld hl' hk s8) (BD (by decide))
 ·refine⟨show 6<13 by decide,?_⟩;refine Ab λK nx=>?_;dsimp only[set_cons_succ,set_cons_zero,At,tv,length_cons,length_nil,Nat.reduceAdd,Au,Av,A1,Al,An,Ad,getElem?_cons_succ,Aw];refine JX (hE' _ _ hwd) (le_trans w1 (by decide)) ⟨by lia,?_⟩;have w0':(0:Int)<(wds.length:Nat):=ofNat_lt.mpr w0;refine Vy (hE' _ _ hwd) (BD w0') (BV w0') (le_trans w1 (by decide)) λk4 hk4=>⟨by decide,nx _ _ ?_⟩
  refine Ab λK nx=>?_;dsimp only[At,tv,length_cons,length_nil,Nat.reduceAdd,set_cons_succ,set_cons_zero,Av,Aq,Ad,getElem?_cons_succ,Aw,BW,ne_eq];refine⟨by decide,by decide,nx _ _ ?_⟩;refine Ab λK nx=>?_;dsimp only[A7];dsimp only[Am,AQ,AT,Ar,C1,Ad,getElem?_cons_succ,Aw,Dd,Az,bne_iff_ne,ne_eq];have stay:K [v0,v1,some (.ref wd),some (.str own),v4,some (.ref z),some (.int k),v7,some (.int (r'.fdiv 3)),some (.ref zg),some (.ref zn),some (.int sz),some (.str k4)] H':=nx _ _ (hI _ _ _ ⟨_,_,_,ns,rfl,hE',hzn',le_succ_of_le hl',nn',kk',hr'⟩);split
  ·rename_i ho;refine GF (no:=true) hzn' ?_;dsimp only[Az];split
   ·rename_i hi;refine Ab λK2 nx2=>?_;dsimp only[AP];have hrz:zr2≠zn:=λe=>by rw[e,hzn']at hr';exact AObj.noConfusion (Ak hr')
    refine IN (v:=.str k4) rfl hzn' (λQ' h=>h) (by rw[AO];lia) (nx2 _ _ (nx _ _ (hI _ _ _ ⟨_,_,_,ns++[k4],rfl,hE'.own hzn,by rw[Ah,txs_snoc],by rw[length_append];exact succ_le_succ hl',?_,λs hs=>?_,by rw[Ag hrz];exact hr'⟩)))
    ·show(own::ns++[k4]).Nodup;rw[nodup_append];refine⟨nn',nodup_cons.mpr ⟨not_mem_nil,nodup_nil⟩,λa ha b hb e=>?_⟩;rw[mem_singleton.mp hb]at e;rcases mem_cons.mp ha with e1|h1
     ·rw[<-e,e1]at ho;exact absurd ho (by simp)
     ·rw[<-e,decide_eq_true h1]at hi;trivial
    ·rcases mem_append.mp hs with hs|hs
     ·exact kk' s hs
     ·exact rl (mem_singleton.mp hs) hk4
   ·exact stay
  ·exact stay
variable(G:Gd c L13.P)
include G
set_option tactic.hygienic true in
theorem Yp(hpu:H pu=some (.list (Ae pur)))(hwd:H wd=some (.list (Ae wds)))(nd:pur.Nodup)(p0:2<=pur.length)(p1:pur.length<=100)(w0:0<wds.length)(w1:wds.length<=100)(np:∀k∈pur,A9 k=true)(nw:∀k∈wds,A9 k=true)
  (q:∀H' t r,Ext H H'->r.nm=own->IR pur r.nm r.ps r.gs r.ns r.last->Rw H' t r->Q (.ref t) H'):CallOK c (n+1) true "_law_pact_by" [.int cl,.ref pu,.ref wd,.str own] Q E H:=by
 refine G.call (F:=L13.Zr) rfl rfl ?_;show Af _ _ _ _ _ [some (.int cl),some (.ref pu),some (.ref wd),some (.str own),none,none,none,none,none,none,none,none,none] _;have pp:0<pur.length:=lt_of_lt_of_le (by decide) p0;have ct0:(0:Int)<(pur.length:Nat):=ofNat_lt.mpr pp;refine Ab λK nx=>?_;dsimp only[At,tv,length_cons,length_nil,Nat.reduceAdd,set_cons_succ,set_cons_zero,A1,Al,An,Ad,getElem?_cons_succ,Aw];refine JX hpu (le_trans p1 (by decide)) ⟨by decide,nx _ _ ?_⟩;refine Ab λK nx=>?_;dsimp only[At,tv,length_cons,length_nil,Nat.reduceAdd,set_cons_succ,set_cons_zero,AB,An];intro z hz;refine⟨by decide,nx _ _ ?_⟩;have E1:=Ext.refl.new (o:=.list []) hz;have hz1:PL (up H z (.list [])) z []:=.nil Ah;generalize up H z (.list [])=H1 at E1 hz1;refine Ab λK nx=>⟨rfl,?_⟩
 dsimp only[A1,B_,Al,An,Ad,getElem?_cons_succ,Aw,Av,Aq,B7,ne_eq,C7,SF];refine⟨by decide,rfl,?_⟩;have a0:=BD (x:=cl) (m:=3) (by decide);have a1:=BV (x:=cl) (m:=3) (by decide);obtain⟨m,hm,m1,m8,mc⟩:∃m:Int,(if(pur.length:Int)<1+cl.fmod 3 then(pur.length:Int) else 1+cl.fmod 3)=m/\1<=m/\m<=8/\m<=pur.length:=⟨_,rfl,by split<;>lia,by split<;>lia,by split<;>lia⟩
 refine rl hm ?_;clear hm;refine Gn (by exact Int.le_of_lt (by assumption)) (Int.le_trans m8 (by decide)) λzr H2 hzr E2 hr=>IH hr (Pa H _ _ _ _ _ pur cl m z zr) ⟨_,rfl,E1.trans E2,hz1.ext E2,hr⟩ ?_;rintro I hI k V' H' ⟨p6,rfl,hE,hzp,hr'⟩;refine⟨hr',λhk=>?_,λhk=>?_⟩
 ·refine nx _ _ ?_;have k1:1<=k:=by lia
  have k8:k<=8:=Ht hk m8
  have kc:k<=pur.length:=Hr hk mc
  clear hk hI hr' m1 m8 mc hr;have pok:=WA (c:=cl) nd pp k1 k8 kc;have sb:=XU (l:=BZ pur cl k) λe he=>(QD he k8 pp).2;rw[J9]at sb;refine Ab λK nx=>?_;dsimp only[At];refine X5 rfl rfl rfl hzp (rl J9 (le_trans k8 (by decide))) λH3 E3=>⟨show 7<13 by decide,nx _ _ ?_⟩
  have hE3:=hE.trans E3;have hz3:=hzp.ext E3;obtain⟨t,ht⟩:∃t,Bj (BZ pur cl k)=t:=⟨_,rfl⟩
  rw[ht]at sb;refine rl ht<|Ab λK nx=>?_;dsimp only[set_cons_succ,set_cons_zero,At,tv,length_cons,length_nil,Nat.reduceAdd,Av,Aq,Ad,Aw,BW,ne_eq];refine⟨by decide,by decide,nx _ _ ?_⟩;generalize cl.fdiv 1440=r;exact XB (r:=r) (hE3 _ _ hpu) p0 p1 np (by lia) λH4 zg kg E4 hg g8 gt=>Xl rfl (E4 _ _ (hE3 _ _ hwd)) w0 w1 λH5 tt zn ns last E5 hzn htt nn kk l8 la=>q H5 tt ⟨own,BZ pur cl k,CA pur r t kg,ns,last⟩ ((hE3.trans E4).trans E5) rfl ⟨pok,XA nd pp (by exact le_trans (by assumption) (by decide)) (by exact le_trans (by assumption) (by assumption)) gt (by lia),by refine rl VD ?_;exact ht,nn,λs hs=>nw s (kk s hs),l8,la⟩ ⟨z,zg,zn,htt,(hz3.ext E4).ext E5,hg.ext E5,hzn⟩
 ·refine⟨show 6<13 by decide,?_⟩;refine Ab λK nx=>?_;dsimp only[set_cons_succ,set_cons_zero,AP,Ax,Al,An,AN,Av,Ad,getElem?_cons_succ,Aw,Aq,Ds,BW,ne_eq,B7,C7,Au];refine⟨?_,?_⟩
  ·obtain⟨ts,hz',_⟩:=hzp;show match H' z with|some (.list _)=>_|some (.dict _ _)=>_|_=>False
   exact rl hz' (.inl rfl)
  refine⟨by decide,Int.ne_of_gt ct0,?_⟩;refine LN (x:=cl.fdiv 120) (j:=k) (hE _ _ hpu) pp p1 ⟨by decide,by decide,IntMulOk.of_left (by decide +kernel),λt ht=>hzp.snoc ht (Kv.nm (np _ (J6 pp))) _ (by refine rl J9 ?_;lia) λH3 g3 e3 k3=>nx _ _ (hI _ _ _ ⟨_,rfl,e3 H hz hE,by refine rl Uz ?_;exact g3,k3 _ _ (λe=>?_) hr'⟩)⟩;obtain⟨ts,hz',_⟩:=hzp;rw[e,hz']at hr';exact AObj.noConfusion (Ak hr')
end
end
section
open L13
noncomputable def DR(B:Bk)(s:Str):Bk:={B with free:=pt B.free s 0,aside:=pt B.aside s 0}
noncomputable def Rr(a:Int)(B:Bk)(s:Str):Bk:={B with free:=pt B.free s (EO B (.str s)+a)}
noncomputable def Ch(a:Int)(B:Bk)(s:Str):Bk:=Rr a (DR B s) s
noncomputable def am(ns:List Int):Int:=if(cell ns 3).fmod 2=1 then 5000 else 30
structure Op(p:List Str)(B:Bk):Prop where
 fk:B.free.map (·.1)=p
 ak:B.aside.map (·.1)=p
 ps:B.pacts=[]
theorem Op.open(O:Op p B)(h:s∉p):Op (p++[s]) (DR B s):=by
 have e:∀{l:List (Str×Int)},l.map (·.1)=p->(pt l s 0).map (·.1)=p++[s]:=λ{l} hl=>by
  refine rl (show pt l s 0=l++[(s,0)] from if_neg λz=>h ((DN hl).mp z)) (rl map_append (rl hl ?_));rfl
 exact⟨e O.fk,e O.ak,O.ps⟩
theorem Op.put(O:Op p B)(h:s∈p):Op p (Rr a B s):=⟨(JR ((DN O.fk).mpr h)).trans O.fk,O.ak,O.ps⟩
theorem Op.one(O:Op p B)(h:s∉p):Op (p++[s]) (Ch a B s):=(O.open h).put (mem_append_right _ (.head _))
theorem Op.sz(O:Op p B)(hl:p.length<=100):B.Sz:=by
 have l1:B.free.length=p.length:=by exact rl (Eq.symm (O.fk ..)) (rl (length_map ..) rfl)
 have l2:B.aside.length=p.length:=by exact rl (Eq.symm (O.ak ..)) (rl (length_map ..) rfl)
 exact⟨by refine rl l1 ?_;exact le_trans hl (by decide),by refine rl l2 ?_;exact le_trans hl (by decide)⟩
theorem Op.all{pur:List Str}(nd:pur.Nodup)(k:Nat):Op (pur.take k) ((pur.take k).foldl (Ch a) ⟨0,[],[],[]⟩):=by
 induction k with
 |zero=>exact⟨rfl,rfl,rfl⟩
 |succ k ih=>
  cases h:pur[k]? with
  |none=>
   have:pur.take (k+1)=pur.take k:=by exact rl take_add_one (rl h (append_nil _))
   exact rl this ih
  |some s=>
   refine rl (B0 h) (rl foldl_append (ih.one λhm=>?_));have:=(nodup_append.mp (show(pur.take k++[s]).Nodup by exact rl (Eq.symm (B0 h)) (nd.sublist (take_sublist _ _)))).2.2 s hm s (.head _);exact this rfl
inductive Oi(H:Ac)(x:Addr)(v0 v1 v2 v3 v4 v5 v6 v7:Option AV)(a:Int)(pur:List Str)(j:Nat)(V':VV)(H':Ac):Prop
 |mk (p9:Option AV) (hV:V'=[v0,v1,v2,v3,v4,v5,v6,v7,some (.ref x),p9,none,none,none,none]) (hK:Kb x H H') (hb:H' x=some (.book ((pur.take j).foldl (Ch a) ⟨0,[],[],[]⟩)))
noncomputable def SH:List S:=[.for (.var 9) (.var 6) [.expr (.meth (.var 8) "open_purse" [(.var 9)]),
   .expr (.meth (.var 8) "put" [(.var 9),(.sub (.list [(.lit (.int 30)),(.lit (.int 5000))]) (.bin .Mod (.call "_law_cell_at" [(.var 0),(.lit (.int 3))]) (.lit (.int 2))))])]]
section
variable(G:Gd c L13.P)
include G
theorem OM(hs:H sp=some (.script ns))(hl:ns.length<=63)(hpu:H pu=some (.list (Ae pur)))(nd:pur.Nodup)(np:∀s∈pur,A9 s=true)(p1:pur.length<=100)(hb:H x=some (.book ⟨0,[],[],[]⟩))
  (q:∀H' p9,Kb x H H'->H' x=some (.book (pur.foldl (Ch (am ns)) ⟨0,[],[],[]⟩))->QN [some (.ref sp),v1,v2,v3,v4,v5,some (.ref pu),v7,some (.ref x),p9,none,none,none,none] H') :
  Af ⟨c,n+4,true⟩ SH QN QR EE [some (.ref sp),v1,v2,v3,v4,v5,some (.ref pu),v7,some (.ref x),v9,none,none,none,none] H:=by
 have hM:c.P.meths=BK.meths:=by refine rl G.hP ?_;rfl
 have npx:pu≠x:=λe=>by rw[e,hb]at hpu;exact AObj.noConfusion (Ak hpu)
 have nsx:sp≠x:=λe=>by rw[e,hb]at hs;exact AObj.noConfusion (Ak hs)
 refine Ab λK nx=>?_;dsimp only[BX,Ad];refine⟨rfl,?_⟩;show Bq _ _ (.ref pu) _ _;refine Fk (Bu hpu) (Oi H x (some (.ref sp)) v1 v2 v3 v4 v5 (some (.ref pu)) v7 (am ns) pur) ⟨_,rfl,.refl,hb⟩ ?_;rintro J hJ j V' H' ⟨p9,rfl,hK,hb'⟩;refine⟨(hK _ _ npx hpu).trans hpu.symm,λhj=>nx _ _ ?_,λs hs'=>?_⟩
 ·rw[hj,take_length]at hb';exact q H' _ hK hb'
 have O:=Op.all (a:=am ns) nd j;have hsm:=mem_of_getElem? hs';have hnj:s∉pur.take j:=λhm=>by
  have:=(nodup_append.mp (show(pur.take j++[s]).Nodup by refine rl (Eq.symm (B0 hs')) ?_;exact nd.sublist (take_sublist _ _))).2.2 s hm s (.head _);exact this rfl
 have e2:(pur.take (j+1)).foldl (Ch (am ns)) ⟨0,[],[],[]⟩=Ch (am ns) ((pur.take j).foldl (Ch (am ns)) ⟨0,[],[],[]⟩) s:=by refine rl (B0 hs') (rl foldl_append ?_);rfl
 have hJ':∀H'',Kb x H' H''->H'' x=some (.book (Ch (am ns) ((pur.take j).foldl (Ch (am ns)) ⟨0,[],[],[]⟩) s))->J (j+1) [some (.ref sp),v1,v2,v3,v4,v5,some (.ref pu),v7,some (.ref x),some (.str s),none,none,none,none] H'':=λH'' k h=>hJ _ _ _ ⟨_,rfl,hK.trans k,by refine rl e2 ?_;exact h⟩;have lt:(pur.take j).length<=100:=by refine rl length_take ?_;exact le_trans (min_le_right _ _) p1
 have lt1:(pur.take j++[s]).length<=101:=by refine rl length_append ?_;exact succ_le_succ lt
 clear hJ e2;generalize(pur.take j).foldl (Ch (am ns)) ⟨0,[],[],[]⟩=B at*;generalize pur.take j=p at*;refine⟨show 9<14 by decide,?_⟩;refine Ab λK nx=>?_;dsimp only[AP];refine Db hM (by decide) (by decide) hb' rfl<|Yq (n:=n+1) G U13.a hb' (Kv.nm (np s hsm)).kn (O.sz lt)<|rl (show Ke B (.str s) = .ok (DR B s) from(if_pos (np s hsm)).trans (if_neg λz=>hnj ((DN O.fk).mp z)))<|nx _ _ ?_;have O1:=O.open hnj;have K1:Kb x H' (up H' x (.book (DR B s))):=.up;have b1:up H' x (.book (DR B s)) x=some (.book (DR B s)):=Ah;generalize up H' x (.book (DR B s))=H1 at K1 b1;refine Ab λK nx=>?_;dsimp only[AP];refine Db hM (by decide) (by decide) b1 rfl ?_;dsimp only[Al,An,Ad];intro z hz;have E2:=Ext.refl.new (o:=.list [.int 30,.int 5000]) hz;have hz2:up H1 z (.list [.int 30,.int 5000]) z=some (.list [.int 30,.int 5000]):=Ah;generalize up H1 z (.list [.int 30,.int 5000])=H2 at E2 hz2;refine GL (n:=n+3) G rfl (by decide) (E2 _ _ (K1 _ _ nsx (hK _ _ nsx hs))) (lt_of_le_of_lt hl (by decide)) ⟨by decide,?_⟩;have fin:CallOK c (n+4) true "Book.put" [.ref x,.str s,.int (am ns)] (λ_ H=>K [some (.ref sp),v1,v2,v3,v4,v5,some (.ref pu),v7,some (.ref x),some (.str s),none,none,none,none] H) (λcl H=>EE cl [some (.ref sp),v1,v2,v3,v4,v5,some (.ref pu),v7,some (.ref x),some (.str s),none,none,none,none] H) H2:=by
  have O1s:(DR B s).Sz:=by
   refine Ap (O.sz lt) λf a=>?_;have l1:(DR B s).free.length=(p++[s]).length:=by exact rl (Eq.symm (O1.fk ..)) (rl (length_map ..) rfl)
   have l2:(DR B s).aside.length=(p++[s]).length:=by exact rl (Eq.symm (O1.ak ..)) (rl (length_map ..) rfl)
   exact⟨by refine rl l1 ?_;exact le_trans lt1 (by decide),by refine rl l2 ?_;exact le_trans lt1 (by decide)⟩
  refine SD (n:=n+1) G U13.a rfl (E2 _ _ b1) (Kv.nm (np s hsm)).kn Kv.int.kn O1s ?_;refine rl (show Fu (DR B s) (.str s) (.int (am ns)) = .ok (Ch (am ns) B s) from(if_pos (show CK (DR B s) (.str s)=true from Bool.and_eq_true _ _▸⟨np s hsm,(DN O1.fk).mpr (mem_append_right _ (.head _))⟩)).trans (if_pos (by unfold am;split<;>decide))) ?_;exact nx _ _ (hJ' _ ((K1.ext' E2).trans .up) Ah)
 have c0:=BD (x:=cell ns 3) (m:=2) (by decide);have c1:=BV (x:=cell ns 3) (m:=2) (by decide);show A8 (.ref z) (.int ((cell ns 3).fmod 2)) _ _;unfold am at fin;by_cases h:(cell ns 3).fmod 2=1
 ·rw[if_pos h]at fin;refine rl h ?_;exact Dt (j:=1) hz2 rfl (show 2<=1000 by decide) fin
 ·rw[if_neg h]at fin;refine rl (show(cell ns 3).fmod 2=0 by lia) ?_;exact Dt (j:=0) hz2 rfl (show 2<=1000 by decide) fin
end
end
section
open L13
theorem All2.take(h:All2 p as bs)(k:Nat):All2 p (as.take k) (bs.take k):=by
 induction as generalizing bs k with
 |nil=>cases bs with
  |nil=>cases k<;>exact trivial
  |cons=>exact h.elim
 |cons a as ih=>cases bs with
  |nil=>exact h.elim
  |cons b bs=>cases k with
   |zero=>exact trivial
   |succ k=>exact⟨h.1,ih h.2 k⟩
inductive Rc(H:Ac)(pur wds:List Str)(k:Nat)(acc:List AV)(H':Ac):Prop
 |mk (ts:List Addr) (rs:List Rd) (ha:acc=ts.map .ref) (hR:Di H' ts rs) (hn:rs.map (·.nm)=wds.take k) (ok:∀r∈rs,IR pur r.nm r.ps r.gs r.ns r.last) (hE:Ext H H')
section
variable(G:Gd c L13.P)
include G
set_option tactic.hygienic true in
theorem Yj(hl14:V.length=14)(h0:V[0]? =some (some (.ref sp)))(h4:V[4]? =some (some (.int (wds.length:Nat))))(h6:V[6]? =some (some (.ref pu)))(h7:V[7]? =some (some (.ref wd)))(hs:H sp=some (.script ns))(hl:ns.length<=63)(hpu:H pu=some (.list (Ae pur)))(hwd:H wd=some (.list (Ae (wds++w2))))(nd:pur.Nodup)(p0:2<=pur.length)(p1:pur.length<=100)(w0:0<wds.length)(w1:(wds++w2).length<=100)(np:∀k∈pur,A9 k=true)(nw:∀k∈wds++w2,A9 k=true)
  (q:∀z H' ts rs,Ext H H'->H' z=some (.list (ts.map .ref))->Di H' ts rs->rs.map (·.nm)=wds->(∀r∈rs,IR pur r.nm r.ps r.gs r.ns r.last)->Q (.ref z) H') :
  Aj ⟨c,n+2,true⟩ (.comp (.call "_law_pact_by" [(.call "_law_mixed" [(.call "_law_cell_at" [(.var 0),(.bin .Add (.lit (.int 8)) (.var 14))]),(.var 14)]),(.var 6),(.var 7),(.sub (.var 7) (.var 14))]) 1 false (.prim .range [(.var 4)]) none) V Q E H:=by
 have hlt:∀{i:Nat} {x:AV} {v:Option AV},V[i]? =some v->(V++[some x])[i]? =some v:=λh=>by refine rl (getElem?_append_left (AJ h).1) ?_;exact h
 have h14:∀x:AV,(V++[some x])[14]? =some (some x):=λx=>by refine rl (getElem?_append_right (rl hl14 (le_refl _))) (rl hl14 ?_);rfl
 have hwl:wds.length<=100:=by rw[length_append]at w1;lia
 dsimp only[Bl,A1,Al,An,Ad];refine rl h4 ⟨rfl,Gn (natCast_nonneg _) (by exact ofNat_le.mpr (le_trans (by assumption) (by decide))) λzr H1 _ E1 hr=>?_⟩;have hl0:((List.range ((wds.length:Int) - 0).toNat).map λ(k:Nat)=>AV.int (0+k)).length=wds.length:=by refine rl (length_map ..) (rl (length_range ..) ?_);exact Nat.add_zero ..
 refine⟨(List.range ((wds.length:Int) - 0).toNat).map λ(k:Nat)=>AV.int (0+k),I0 hr,by refine rl hl0 ?_;exact le_trans hwl (by decide),Rc H1 pur wds,⟨[],[],rfl,trivial,rfl,(λr h=>by trivial),.refl⟩,?_⟩;rintro k acc H' ⟨ts,rs,rfl,hR,hn,ok,hE⟩;refine⟨(hE _ _ hr).trans hr.symm,λhk a ha=>?_,λy hy=>?_⟩
 ·rw[hl0]at hk;rw[hk,take_length]at hn;have E2:=Ext.refl.new (o:=.list (ts.map .ref)) ha;exact q a _ ts rs ((E1.trans hE).trans E2) Ah (GN hR (.ext E2)) hn ok
 have hk:k<wds.length:=by exact rl hl0.symm ((AJ hy).1)
 rw[getElem?_map,map_eq_some_iff]at hy;refine e12 hy λj hj z02=>?_;obtain rfl:=z02;refine e11 (AJ hj) λhj1 hj2=>?_;rw[getElem_range]at hj2;refine rl (Eq.symm (hj2 ..)) (rl (Int.zero_add ..) ?_);dsimp only[CR];refine rl (if_neg Bool.false_ne_true) (rl (if_pos rfl) ?_);dsimp only[A6,Al,An,Ad,Av,Aq,Au];refine rl (h14 ..) (rl (hlt h0 ..) (rl (hlt h6 ..) (rl (hlt h7 ..) ?_)));have hE1:=E1.trans hE;refine GL (n:=n+1) G rfl (show(0:Int)<=8+(k:Int) by exact natCast_nonneg _) (hE1 _ _ hs) (lt_of_le_of_lt hl (by decide))<|Ii G rfl ?_;have hwk:(wds++w2)[k]? =some wds[k]:=by refine rl (getElem?_append_left hk) ?_;exact getElem?_eq_getElem hk
 refine JJ (hE1 _ _ hwd) hwk (le_trans w1 (by decide))<|Yp (n:=n+1) G (hE1 _ _ hpu) (hE1 _ _ hwd) nd p0 p1 (by refine rl length_append ?_;lia) w1 np nw λH2 t r E2 e rok rw=>⟨ts++[t],rs++[r],by refine rl map_append ?_;rfl,(GN hR (.ext E2)).snoc rw,?_,λr' hr'=>?_,hE.trans E2⟩
 ·refine rl map_append (rl hn (rl (B0 (getElem?_eq_getElem hk)) (rl e.symm ?_)));rfl
 ·rcases mem_append.mp hr' with h|h
  ·exact ok r' h
  ·exact rl (mem_singleton.mp h) rok
theorem Py(hl14:V.length=14)(hi:V[i]? =some (some (.ref b)))(h11:V[11]? =some (some (.ref tl)))(R:Rok pur rs)(I:Iv pur rs B)(hb:H b=some (.book B))(htl:H tl=some (.list (ts.map .ref)))(hR:Di H ts rs)
  (q:∀z H',Ext H H'->H' z=some (.list (Ae (B.pacts.map λx=>x.state.str)))->Q (.ref z) H') :
  Aj ⟨c,n+3,true⟩ (.comp (.meth (.var i) "state_of" [(.sub (.var 14) (.lit (.int 0)))]) 1 false (.var 11) none) V Q E H:=by
 have hM:c.P.meths=BK.meths:=by refine rl G.hP ?_;rfl
 have hlr:=hR.len;have hl60:=R.len;have hlt:∀{i:Nat} {x:AV} {v:Option AV},V[i]? =some v->(V++[some x])[i]? =some v:=λh=>by refine rl (getElem?_append_left (AJ h).1) ?_;exact h
 have h14:∀x:AV,(V++[some x])[14]? =some (some x):=λx=>by refine rl (getElem?_append_right (by rw[hl14];exact le_refl _)) (rl hl14 ?_);rfl
 dsimp only[Bl,Ad];refine rl h11 ⟨rfl,⟨ts.map .ref,Bu htl,by refine rl (length_map ..) (rl (hlr ..) ?_);exact le_trans hl60 (by decide),λk acc H'=>Ext H H'/\acc=Ae ((B.pacts.map λx=>x.state.str).take k),⟨.refl,rfl⟩,?_⟩⟩;rintro k acc H' ⟨hE,rfl⟩;refine⟨(hE _ _ htl).trans htl.symm,λhk a ha=>?_,λy hy=>?_⟩
 ·exact q a _ (hE.new ha)<|rl (Ah ..) (rl (hk ..) (rl (length_map ..) (rl (hlr ..) (rl (Eq.symm (I.ln ..)) (rl (Eq.symm (length_map (f:=λx:Pc=>x.state.str) ..)) (rl (take_length ..) rfl))))))
 ·rw[getElem?_map,map_eq_some_iff]at hy;refine e12 hy λt ht z12=>?_;obtain rfl:=z12;have hk:k<rs.length:=by exact rl (Eq.symm (hlr ..)) ((AJ ht).1)
  refine e12 (hR.getR (getElem?_eq_getElem hk)) λt' ht' hr=>?_;rw[ht]at ht';rw[<-Ak ht']at hr;refine e12 (I.at (getElem?_eq_getElem hk)) λx hx e=>?_;rw[<-e]at hr;dsimp only[CR];refine rl (if_neg Bool.false_ne_true) (rl (if_pos rfl) (Db hM (by decide) (by decide) (hE _ _ hb) (hlt hi) (rl Al (C' (r:=x.rd) (h14 _) (hr.kp (.ext hE)) (rl An (LK (n:=n) G R I (hE _ _ hb) (mem_of_getElem? hx) ⟨hE,rl (B0 (by refine rl (getElem?_map) (rl hx ?_);rfl) ..) ?_⟩))))));exact txs_snoc
end
theorem RF(hmd:g.md=true)(hl14:V.length=14)(h12:V[12]? =some (some (.ref hd)))(hh:Held H hd ys)(ly:ys.length<=10000)(q:∀z H',Ext H H'->H' z=some (.list (Ae []))->Q (.ref z) H') :
  Aj g (.comp (.var 14) 1 false (.var 12) (some (.cmp .NotEq (.sub (.var 14) (.lit (.int 0))) (.sub (.var 14) (.lit (.int 1)))))) V Q E H:=by
 have h14:∀x:AV,(V++[some x])[14]? =some (some x):=λx=>by refine rl (getElem?_append_right (rl hl14 (le_refl _))) (rl hl14 ?_);rfl
 dsimp only[Bl,Ad];refine rl h12 ⟨hmd,Ib (xs:=ys.map .ref) (Bu hh.at_) (rl (length_map ..) (le_trans ly (by decide))) (λ_=>none) (λy hy H' hE nx hnx=>?_) λz H' hE hz=>?_⟩
 ·refine e12 (mem_map.mp hy) λu hu z22=>?_;obtain rfl:=z22;refine e34 (hh.v u hu) λa b l h1 h2 h3 _=>?_;dsimp only[Dg];refine rl (if_neg Bool.false_ne_true) ?_;dsimp only[Ar,Au,Ad,Aq];refine rl (h14 ..)<|FH (j:=0) (hE _ _ h1) rfl (show 2<=1000 by decide)<|FH (j:=1) (hE _ _ h1) rfl (show 2<=1000 by decide) ?_;dsimp only[Gp];exact Ga (hE _ _ h2) (hE _ _ h3)<|rl (decide_eq_true rfl) (hnx H' .refl)
 ·refine q z _ (hE.new hz)<|rl Ah ?_;congr 2
  induction ys.map AV.ref with
  |nil=>rfl
  |cons a l ih=>exact ih
end
section
open L13
structure Ls(ns:List Int)(pur:List Str)(rs:List Rd)(H0:Ac)(sp b tw ro tl hd:Addr)(rts:List Addr)(k:Nat)(B:Bk)(ys:List Addr)(H:Ac):Prop where
 hs:H sp=some (.script ns)
 hb:H b=some (.book B)
 ht:H tw=some (.book B)
 ne:tw≠b
 hr:H ro=some (.list (rts.map .ref))
 hl:H tl=some (.list ((rts.take k).map .ref))
 R:Di H0 rts rs
 k0:Kp H0 H
 h0:H0 hd=none
 I:Iv pur (rs.take k) B
 N:NF B
 kl:k<=rs.length
 hh:Held H hd ys
 n1:ro≠hd
 n2:tl≠hd
theorem Ls.go(L:Ls ns pur rs H0 sp b tw ro tl hd rts k B ys H)(e:Kh hd H H')(hh':Held H' hd ys')(hb':H' b=some (.book B'))(ht':H' tw=some (.book B'))(I':Iv pur (rs.take k) B')(N':NF B'):Ls ns pur rs H0 sp b tw ro tl hd rts k B' ys' H':=
 ⟨e _ _ rfl (λz=>by have:=L.hh.at_;rw[<-z,L.hs]at this;exact AObj.noConfusion (Ak this)) L.hs,hb',ht',L.ne,e _ _ rfl L.n1 L.hr,e _ _ rfl L.n2 L.hl,L.R,λa x n h=>e a x n (Cd h L.h0) (L.k0 a x n h),L.h0,I',N',L.kl,hh',L.n1,L.n2⟩
theorem Ls.ext(L:Ls ns pur rs H0 sp b tw ro tl hd rts k B ys H)(e:Ext H H'):Ls ns pur rs H0 sp b tw ro tl hd rts k B ys H':=L.go (.ext e) (L.hh.kh (.ext e) ((e _ _ L.hh.at_).trans L.hh.at_.symm)) (e _ _ L.hb) (e _ _ L.ht) L.I L.N
inductive Ti(ns:List Int)(pur:List Str)(rs:List Rd)(H0:Ac)(sp b tw ro hd zr:Addr)(rts:List Addr)(v3 v4 v5 v6 v7 v8 v9:Option AV)(mx:Int)(i:Nat)(V':VV)(H':Ac):Prop
 |mk (p13:Option AV) (tl:Addr) (k:Nat) (B:Bk) (hV:V'=[some (.ref sp),some (.ref b),some (.ref tw),v3,v4,v5,v6,v7,v8,v9,some (.ref ro),some (.ref tl),some (.ref hd),p13]) (L:Ls ns pur rs H0 sp b tw ro tl hd rts k B [] H') (hk:k<=i) (hz:H' zr=some (.range 0 mx))
inductive Tj(ns:List Int)(pur:List Str)(rs:List Rd)(H0:Ac)(sp b tw ro hd zr:Addr)(rts:List Addr)(v3 v4 v5 v6 v7 v8 v9:Option AV)(mx:Int)(i:Nat)(V':VV)(H':Ac):Prop
 |mk (p13:Option AV) (tl:Addr) (k:Nat) (B:Bk) (ys:List Addr) (hV:V'=[some (.ref sp),some (.ref b),some (.ref tw),v3,v4,v5,v6,v7,v8,v9,some (.ref ro),some (.ref tl),some (.ref hd),p13]) (L:Ls ns pur rs H0 sp b tw ro tl hd rts k B ys H') (ly:ys.length<=62*i) (hz:H' zr=some (.range 0 mx))
section
variable(G:Gd c L13.P)
include G
theorem O7(R:Rok pur rs)(L:Ls ns pur rs H0 sp b tw ro tl hd rts k B ys H)(hk:k<rs.length)(hz:H zr=some (.range 0 mx))
  (q:∀H' tl' k' B',Ls ns pur rs H0 sp b tw ro tl' hd rts k' B' ys H'->k'<=k+1->H' zr=some (.range 0 mx)->QN [some (.ref sp),some (.ref b),some (.ref tw),v3,v4,v5,v6,v7,v8,v9,some (.ref ro),some (.ref tl'),some (.ref hd),v13] H') :
  A4 ⟨c,n+6,true⟩ (.assign (.var 11) (.call "_law_tell" [(.var 1),(.var 2),(.var 10),(.var 11)])) QN QR EE [some (.ref sp),some (.ref b),some (.ref tw),v3,v4,v5,v6,v7,v8,v9,some (.ref ro),some (.ref tl),some (.ref hd),v13] H:=by
 refine X4 (n:=n+1) G R hk L.I L.N L.ne L.hb L.ht L.hr L.R L.k0 L.hl λH' z k' B' kp hb' ht' I' N' kl' nz hz' kk=>⟨show 11<14 by decide,?_⟩
 have hh':=L.hh.kh (.kp kp) ((kp _ _ rfl L.hh.at_).trans L.hh.at_.symm);exact q H' z k' B' ⟨kp _ _ rfl L.hs,hb',ht',L.ne,kp _ _ rfl L.hr,hz',L.R,L.k0.trans kp,L.h0,I',N',kl',hh',L.n1,λe=>nz hd _ rfl L.hh.at_ e.symm⟩ kk.2 (kp _ _ rfl hz)
set_option tactic.hygienic true in
theorem Xy(R:Rok pur rs)(hl:ns.length<=63)(L:Ls ns pur rs H0 sp b tw ro tl hd rts k B ys H)(ly:ys.length<=1000){i:Nat}(hz:H zr=some (.range 0 mx))
  (q:∀H' tl' k' B' ys',Ls ns pur rs H0 sp b tw ro tl' hd rts k' B' ys' H'->ys'.length<=ys.length+62->H' zr=some (.range 0 mx)->QN [some (.ref sp),some (.ref b),some (.ref tw),v3,some (.int (rs.length:Nat)),v5,v6,v7,v8,v9,some (.ref ro),some (.ref tl'),some (.ref hd),some (.int i)] H') :
  Af ⟨c,n+6,true⟩ [.expr (.call "_law_round" [(.var 1),(.var 11),(.call "_law_mixed" [(.call "_law_cell_at" [(.var 0),(.bin .Add (.lit (.int 4)) (.var 13))]),(.var 13)])]),
  .expr (.call "_law_round" [(.var 2),(.var 11),(.call "_law_mixed" [(.call "_law_cell_at" [(.var 0),(.bin .Add (.lit (.int 4)) (.var 13))]),(.var 13)])]),
  .ite (.not (.call "_law_settled" [(.var 1),(.var 2),(.var 11),(.bin .FloorDiv (.call "_law_mixed" [(.call "_law_cell_at" [(.var 0),(.bin .Add (.lit (.int 4)) (.var 13))]),(.bin .Add (.var 13) (.lit (.int 5)))]) (.lit (.int 3))),(.var 12)])) [.ret (.lit (.bool false))] [],
  .ite (.cmp .Lt (.prim .len [(.var 11)]) (.var 4)) [.ite (.not (.call "_law_refused" [(.var 1),(.sub (.sub (.var 10) (.prim .len [(.var 11)])) (.lit (.int 0)))])) [.ret (.lit (.bool false))] [],
   .assign (.var 11) (.call "_law_tell" [(.var 1),(.var 2),(.var 10),(.var 11)])] []] QN QR EE [some (.ref sp),some (.ref b),some (.ref tw),v3,some (.int (rs.length:Nat)),v5,v6,v7,v8,v9,some (.ref ro),some (.ref tl),some (.ref hd),some (.int i)] H:=by
 have Rk:=R.take k;have hRk:=L.R.take k;have hlr:=L.R.len;have hl60:=R.len;have hlt:(rts.take k).length=k:=by refine rl length_take (rl hlr ?_);have:=L.kl;lia
 have mx_:∀{H:Ac} {Q:AV->Ac->Prop} {E:String->Ac->Prop} {v11:Option AV} {e:X} {j:Int},H sp=some (.script ns)->(∀Q':AV->Ac->Prop,Q' (.int j) H->Aj ⟨c,n+6,true⟩ e [some (.ref sp),some (.ref b),some (.ref tw),v3,some (.int (rs.length:Nat)),v5,v6,v7,v8,v9,some (.ref ro),v11,some (.ref hd),some (.int i)] Q' E H)->Q (.int (AL (cell ns (4+(i:Int)).toNat) j)) H->Aj ⟨c,n+6,true⟩ (.call "_law_mixed" [(.call "_law_cell_at" [(.var 0),(.bin .Add (.lit (.int 4)) (.var 13))]),e]) [some (.ref sp),some (.ref b),some (.ref tw),v3,some (.int (rs.length:Nat)),v5,v6,v7,v8,v9,some (.ref ro),v11,some (.ref hd),some (.int i)] Q E H:=λ{H Q E v11 e j} hs he hq=>by
  dsimp only[A6,Al,An,Ad,Av,Aq];show CallOK _ _ _ _ [.ref sp,.int (4+(i:Int))] _ _ _;exact GL (n:=n+5) G rfl (show(0:Int)<=4+(i:Int) by exact natCast_nonneg _) hs (lt_of_le_of_lt hl (by decide))<|he _ (Ii G rfl hq)
 refine Ab λK nx=>?_;dsimp only[AP];refine rl A6 (rl Al (rl Ad ?_));show Ay _ [.var 11,_] _ _ _ _;refine rl Al (rl Ad ?_);show Ay _ [_] _ _ _ _;refine rl Al (mx_ (j:=i) L.hs (λQ' h=>h) (rl An (Pl (n:=n) G Rk ⟨L.I,L.N⟩ L.hb L.hl hRk L.k0 λv H1 K1 b1=>nx _ _ ?_)));have kp1:=Kp.kb L.hb K1;have t1:=K1 _ _ L.ne L.ht;have I1:=Yk (cl:=AL (cell ns (4+(i:Int)).toNat) i) Rk ⟨L.I,L.N⟩;refine Ab λK nx=>?_;dsimp only[AP];refine rl A6 (rl Al (rl Ad ?_));show Ay _ [.var 11,_] _ _ _ _;refine rl Al (rl Ad ?_);show Ay _ [_] _ _ _ _;refine rl Al (mx_ (j:=i) (kp1 _ _ rfl L.hs) (λQ' h=>h) (rl An (Pl (n:=n) G Rk ⟨L.I,L.N⟩ t1 (kp1 _ _ rfl L.hl) hRk (L.k0.trans kp1) λv H2 K2 t2=>nx _ _ ?_)));have kp2:=Kp.kb t1 K2;have b2:=K2 _ _ L.ne.symm b1;have kp02:=kp1.trans kp2;generalize Hk (AL (cell ns (4+(i:Int)).toNat) i) (rs.take k) B=B1 at b2 t2 I1;have L2:=L.go (.kp kp02) (L.hh.kh (.kp kp02) ((kp02 _ _ rfl L.hh.at_).trans L.hh.at_.symm)) b2 t2 I1.1 I1.2;have hz2:=kp02 _ _ rfl hz;clear kp1 kp2 kp02 K1 K2 b1 t1 b2 t2 I1 L hz;refine Ab λK nx=>?_;dsimp only[A7];refine rl AF (rl A6 (rl Al (rl Ad ?_)));show Ay _ [.var 2,_,_,_] _ _ _ _;refine rl Al (rl Ad ?_);show Ay _ [.var 11,_,_] _ _ _ _;refine rl Al (rl Ad ?_);show Ay _ [_,.var 12] _ _ _ _;refine rl Al (rl Av (mx_ (j:=(i:Int)+5) L2.hs (λQ' h=>h) (rl Aq ⟨by decide,?_⟩)));refine T8 (n:=n) G Rk L2.I L2.N L2.ne L2.hb L2.ht L2.hl hRk L2.k0 L2.h0 L2.hh ly λH3 ys3 B3 k3 hh3 l3 b3 t3 I3 N3=>nx _ _ ?_;have nzh:zr≠hd:=λe=>by have:=L2.hh.at_;rw[<-e,hz2]at this;exact AObj.noConfusion (Ak this)
 have hz3:=k3 _ _ rfl nzh hz2;have L3:=L2.go k3 hh3 b3 t3 I3 N3;clear L2 hz2 k3 hh3 b3 t3 I3 N3;refine Ab λK nx=>?_;dsimp only[A7,Ar,A1,Al,An,Ad];show BS _ .len [.ref tl] _ _;refine El L3.hl (by refine rl (length_map ..) (rl (hlt ..) ?_);have:=L3.kl;exact le_trans (by assumption) (le_trans (by assumption) (by decide))) ?_;refine rl (length_map ..) (rl (hlt ..) ?_);show AA .Lt (.int (k:Nat)) (.int (rs.length:Nat)) _ _;dsimp only[Bc,Az];by_cases hk:k<rs.length
 ·refine rl (decide_eq_true (ofNat_lt.mpr hk))<|rl (if_pos rfl)<|e12 (L3.R.getR (getElem?_eq_getElem hk)) λt ht hrw=>?_;have hrk:=getElem?_eq_getElem hk;generalize rs[k]=r at hrk hrw;have hrm:=mem_of_getElem? hrk;refine Ab λK2 nx2=>?_;dsimp only[A7,AF,A6,Al,An,Au,A1,Ad,Aq];show BS _ .len [.ref tl] _ _;refine El L3.hl (by refine rl (length_map ..) (rl (hlt ..) ?_);have:=L3.kl;exact le_trans (by assumption) (le_trans (by assumption) (by decide))) ?_;refine rl (length_map ..) (rl (hlt ..) (Dt (v:=.ref t) L3.hr (by refine rl (getElem?_map ..) (rl (ht ..) ?_);rfl) (rl (length_map ..) (rl (hlr ..) (le_trans (by assumption) (by decide)))) ?_));obtain⟨pl,gl,nl,htt,_⟩:=hrw.kp L3.k0;refine FH (j:=0) htt rfl (show 5<=1000 by decide)<|Oc (n:=n+2) G (Kv.nm (R.nm r hrm)).kn L3.hb ?_ ?_
  ·show(if A9 r.nm=true then AU B3.pacts r.nm else none)=none;refine rl (if_pos (R.nm r hrm)) ?_;cases e:AU B3.pacts r.nm with
   |none=>rfl
   |some w=>
    exfalso
    refine Ap (D5 (j:=w.1) (q:=w.2) e) λh1 h2=>?_;have hm:r.nm∈(rs.take k).map (·.nm):=by exact rl L3.I.names.symm (rl h2.symm (mem_map_of_mem (mem_of_getElem? h1)))
    have hnd:((rs.take k++[r]).map (·.nm)).Nodup:=by exact rl (Eq.symm (B0 hrk)) (R.nd.sublist ((take_sublist _ _).map _))
    rw[map_append]at hnd;exact(nodup_append.mp hnd).2.2 r.nm hm r.nm (.head _) rfl
  ·exact nx2 _ _<|Ab λK3 nx3=>O7 (n:=n) G R L3 hk hz3 λH4 tl4 k4 B4 L4 _ hz4=>nx3 _ _ (nx _ _ (q H4 tl4 k4 B4 ys3 L4 l3 hz4))
 ·exact rl (decide_eq_false (λz=>hk (ofNat_lt.mp z)))<|nx _ _ (q H3 tl k B3 ys3 L3 l3 hz3)
end
end
section
open L13
noncomputable def C4:Str:=ofString "never"
noncomputable def yt:Str:=ofString "yet"
theorem TI(h0:0<=k)(h1:k<52):BL k cl≠C4:=λe=>by
 have e:CM k cl=[110,101,118,101,114]:=congrArg (λs:Str=>s.cps.toList) e;have hc:CH ((k.fdiv 26).fmod 26)=97\/CH ((k.fdiv 26).fmod 26)=98:=by
  have:k.fdiv 26=0\/k.fdiv 26=1:=by refine rl (Int.fdiv_eq_ediv_of_nonneg _ (by decide)) ?_;lia
  rcases this with h|h<;>refine rl h ?_
  ·exact .inl (by decide +kernel)
  ·exact .inr (by decide +kernel)
 have hm:CH ((k.fdiv 26).fmod 26)∈Cn k:=.head _;have hw:(CM k cl).length=1\/CH ((k.fdiv 26).fmod 26)∈CM k cl:=by
  unfold CM;split
  ·dsimp only;split
   ·exact .inl rfl
   ·exact .inr (mem_append_left _ hm)
  ·exact .inr (mem_append_left _ (mem_append_right _ hm))
 rw[e]at hw;rcases hw with h|h
 ·trivial
 ·rcases hc with q|q<;>rw[q]at h<;>exact absurd h (by decide)
section
variable(G:Gd c L13.P)
include G
theorem Xv(R:Rok pur rs)(L:Ls ns pur rs H0 sp b tw ro tl hd rts k B ys H)(ly:ys.length<=1000)(hn:∀r∈rs,r.nm≠C4)(q:∀H',QR (.bool true) H') :
  Af ⟨c,n+6,true⟩ (L13.Zs.body.drop 15) QN QR EE [some (.ref sp),some (.ref b),some (.ref tw),v3,v4,v5,v6,v7,v8,v9,some (.ref ro),some (.ref tl),some (.ref hd),v13] H:=by
 have Rk:=R.take k;have hRk:=L.R.take k;refine Ab λK nx=>?_;dsimp only[A7];refine rl Ar<|Py (n:=n+3) G rfl rfl rfl Rk L.I L.ht L.hl (GN hRk L.k0) λz1 H1 E1 hz1=>?_;have L1:=L.ext E1;refine Py (n:=n+3) G rfl rfl rfl Rk L.I L1.hb L1.hl (GN hRk L1.k0) λz2 H2 E2 hz2=>?_;have L2:=L1.ext E2;dsimp only[Gp];refine Ga (E2 _ _ hz1) hz2<|rl (decide_eq_true rfl)<|nx _ _ ?_;dsimp only[BG,Bp];refine rl Am (rl AQ (rl A6 (rl Al (rl Ad ?_))));show Ay _ [.lit (.str C4)] _ _ _ _;refine rl Al (rl Aq (rl An (Oc (n:=n+2) G (Kv.nm (by decide +kernel)).kn L2.hb ?_ ?_)))
 ·show(if A9 C4=true then AU B.pacts C4 else none)=none;refine rl (if_pos (by decide +kernel)) ?_;cases e:AU B.pacts C4 with
  |none=>rfl
  |some w=>
   exfalso
   exact Ap (D5 (j:=w.1) (q:=w.2) e) λh1 h2=>hn _ (mem_of_mem_take (L.I.mem (mem_of_getElem? h1))) h2
 ·dsimp only[Az];exact rl (if_pos rfl) (rl AT (rl Ar (RF rfl rfl rfl L2.hh (le_trans ly (by decide)) λz3 H3 E3 hz3=>IB (ne:=false) hz3 λH4 E4=>q H4)))
set_option tactic.hygienic true in
theorem Xs(R:Rok pur rs)(hl:ns.length<=63)(L:Ls ns pur rs H0 sp b tw ro tl hd rts 0 B [] H)(hn:∀r∈rs,r.nm≠C4)(hp:2<=rs.length)(q:∀H',QR (.bool true) H') :
  Af ⟨c,n+6,true⟩ (L13.Zs.body.drop 13) QN QR EE [some (.ref sp),some (.ref b),some (.ref tw),v3,some (.int (rs.length:Nat)),v5,v6,v7,v8,v9,some (.ref ro),some (.ref tl),some (.ref hd),none] H:=by
 have hl60:=R.len;refine Ab λK nx=>?_;dsimp only[BX,A1,Al,An,Av,Ad,A6,Aq];refine⟨rfl,?_⟩;show CallOK _ _ _ _ [.ref sp,.int 3] _ _ _;refine GL (n:=n+5) G rfl (by decide) L.hs (lt_of_le_of_lt hl (by decide)) ?_;dsimp only[BW,B7];refine⟨by decide,by decide,?_⟩;have d0:=BD (x:=(cell ns 3).fdiv 2) (m:=3) (by decide);have d1:=BV (x:=(cell ns 3).fdiv 2) (m:=3) (by decide);refine rl De ?_;obtain⟨m,hm,m0,m1⟩:∃m:Int,(rs.length:Nat) - ((cell ns 3).fdiv 2).fmod 3=m/\0<=m/\m<=(rs.length:Nat):=⟨_,rfl,by lia,Lc d0⟩
 refine rl hm ?_;clear hm d0 d1;refine Gn m0 (by lia) λzr H1 _ E1 hz=>IH hz (Ti ns pur rs H0 sp b tw ro hd zr rts v3 (some (.int (rs.length:Nat))) v5 v6 v7 v8 v9 m) ⟨_,tl,0,B,rfl,L.ext E1,le_refl _,hz⟩ ?_;rintro J hJ i V' H' ⟨p13,tl',k',B',rfl,L',hk',hz'⟩;refine⟨hz',λhi=>nx _ _ ?_,λhi=>?_⟩
 ·clear hJ hz' hi;refine Ab λK nx=>?_;dsimp only[BX,A1,Al,An,Au,AB,Ar,Ad,Aq];refine⟨rfl,?_⟩;show ∀a,H' a=none->AA .Gt (.int (rs.length:Nat)) (.int 10) _ (up H' a (.list [.int 4,.int 2]));intro z hz;have E2:=Ext.refl.new (o:=.list [.int 4,.int 2]) hz;have hz2:up H' z (.list [.int 4,.int 2]) z=some (.list [.int 4,.int 2]):=Ah;have L2:=L'.ext E2;generalize up H' z (.list [.int 4,.int 2])=H2 at E2 hz2 L2;dsimp only[Bw,Ka];have go:∀m:Int,0<=m->m<=4->BS true .range [.int m] (λv H=>Bq K (λx nx V H=>B_ (.var 13) x V H λV=>Af ⟨c,n+6,true⟩ _ nx QR EE V H) v [some (.ref sp),some (.ref b),some (.ref tw),v3,some (.int (rs.length:Nat)),v5,v6,v7,v8,v9,some (.ref ro),some (.ref tl'),some (.ref hd),p13] H) H2:=λm m0 m4=>by
   refine Gn m0 (by exact Int.le_trans (by assumption) (by decide)) λzr2 H3 _ E3 hz3=>IH hz3 (Tj ns pur rs H0 sp b tw ro hd zr2 rts v3 (some (.int (rs.length:Nat))) v5 v6 v7 v8 v9 m) ⟨_,tl',k',B',[],rfl,L2.ext E3,le_refl _,hz3⟩ ?_;rintro J2 hJ2 i2 V2 H4 ⟨q13,tl2,k2,B2,ys2,rfl,L4,ly,hz4⟩;refine⟨hz4,λhi2=>nx _ _ ?_,λhi2=>?_⟩
   ·exact Xv (n:=n) G R L4 (by lia) hn q
   ·refine⟨show 13<14 by decide,?_⟩;exact Xy (n:=n) (i:=i2) G R hl L4 (by lia) hz4 λH5 tl5 k5 B5 ys5 L5 l5 hz5=>hJ2 _ _ _ ⟨_,tl5,k5,B5,ys5,rfl,L5,by lia,hz5⟩
  by_cases h:decide ((10:Int)<(rs.length:Nat))=true
  ·exact rl (if_pos h)<|Dt (j:=1) hz2 rfl (show 2<=1000 by decide) (go 2 (by decide) (by decide))
  ·exact rl (if_neg h)<|Dt (j:=0) hz2 rfl (show 2<=1000 by decide) (go 4 (by decide) (by decide))
 ·refine⟨show 13<14 by decide,?_⟩;refine Ab λK nx=>O7 (n:=n) G R L' (KO hk' hi m1) hz' λH2 tl2 k2 B2 L2 hk2 hz2=>nx _ _ (hJ _ _ _ ⟨_,tl2,k2,B2,rfl,L2,HN hk2 hk',hz2⟩)
end
end
section
open L13
section
variable(G:Gd c L13.P)
include G
theorem Xu{cn mn:Nat}(hs:H sp=some (.script ns))(hl:ns.length<=63)(hb:H b=some (.book ⟨0,[],[],[]⟩))(htw:H tw=some (.book ⟨0,[],[],[]⟩))(hne:tw≠b)(c0:2<=cn)(c1:cn<=12)(m0:2<=mn)(m1:mn<=30)(q:∀H',QR (.bool true) H') :
  Af ⟨c,n+6,true⟩ (L13.Zs.body.drop 6) QN QR EE [some (.ref sp),some (.ref b),some (.ref tw),some (.int cn),some (.int mn),none,none,none,none,none,none,none,none,none] H:=by
 refine Ab λK nx=>Vl (n:=n+4) (nm:="_law_told") (i:=2) (x:=14) (m:=cn+mn) G rfl rfl rfl (by decide) (HQ c1 m1) rfl rfl hs hl (λQ E h=>?_) λH1 zn E1 hzn=>⟨show 5<14 by decide,nx _ _ ?_⟩
 ·dsimp only[Av,Ad];exact h
 have hwn:=Vm (cl:=cell ns (2:Int).toNat) (m:=cn+mn);have hwd:=Vn (cl:=cell ns (2:Int).toNat) (m:=cn+mn) (HQ c1 m1);have hwl:(EL (cell ns (2:Int).toNat) (cn+mn)).length=cn+mn:=by unfold EL;exact rl (length_map ..) (rl (length_range ..) rfl)
 have hwv:∀s∈EL (cell ns (2:Int).toNat) (cn+mn),s≠C4:=λs h=>by
  refine e12 (mem_map.mp h) λk hk z02=>?_;obtain rfl:=z02;exact TI (natCast_nonneg k) (by have:=mem_range.mp hk;lia)
 generalize EL (cell ns (2:Int).toNat) (cn+mn)=ws at hzn hwn hwd hwl hwv;obtain⟨pur,wds,rfl,hpl,hwdl⟩:∃pur wds,ws=pur++wds/\pur.length=cn/\wds.length=mn:=⟨ws.take cn,ws.drop cn,(take_append_drop _ _).symm,by refine rl length_take ?_;lia,by refine rl length_drop ?_;exact KW hwl⟩
 refine Br (nodup_append.mp hwd) λnd1 nd2 _=>?_;have np:∀s∈pur,A9 s=true:=λs h=>hwn s (mem_append_left _ h);have nw:∀s∈wds,A9 s=true:=λs h=>hwn s (mem_append_right _ h);have nv:∀s∈wds,s≠C4:=λs h=>hwv s (mem_append_right _ h);refine Ab λK nx=>?_;dsimp only[At,Bf,Ad,Do,Df];show EK (.ref zn) none (some (.int cn)) none _ _;refine Ic (l:=none) (u:=some (cn:Int)) (t:=none) hzn rfl rfl rfl (by decide) (by refine rl AO (rl hwl ?_);exact F7 c1 m1) λpu H2 E2 _ hpu=>⟨show 6<14 by decide,nx _ _ ?_⟩
 have hpu:H2 pu=some (.list (Ae pur)):=by
  rw[hpu,LE];unfold Ae;rw[<-map_take,<-hpl,List.take_left'];rfl
 refine Ab λK nx=>?_;dsimp only[At,Av,Bf,Ad,Do,Df,AB,Al,An,Aq];show EK (.ref zn) (some (.int cn)) none none _ _;refine Ic (l:=some (cn:Int)) (u:=none) (t:=none) (E2 _ _ hzn) rfl rfl rfl (by decide) (by refine rl AO (rl hwl ?_);exact F7 c1 m1) λz3 H3 E3 _ hz3=>?_;have hz3:H3 z3=some (.list (Ae wds)):=by
  rw[hz3,OI (by rw[AO,hwl];exact Dw)];unfold Ae;rw[<-List.map_drop,<-hpl,List.drop_left'];rfl
 intro z4 hz4;have E4:=Ext.refl.new (o:=.list [.str C4,.str yt]) hz4;refine GM (ys:=Ae [C4,yt]) (E4 _ _ hz3) Ah (by refine rl AO (rl hwdl ?_);show mn+2<=1000;lia) λwd hwd'=>⟨show 7<14 by decide,nx _ _ ?_⟩
 have E5:=E3.trans (E4.new (o:=.list (Ae wds++Ae [C4,yt])) hwd');have hwd5:up (up H3 z4 (.list [.str C4,.str yt])) wd (.list (Ae wds++Ae [C4,yt])) wd=some (.list (Ae (wds++[C4,yt]))):=by rw[Ah];unfold Ae;rw[map_append]
 change Af _ _ _ _ _ _ (up (up H3 z4 (.list [.str C4,.str yt])) wd (.list (Ae wds++Ae [C4,yt])))
 generalize up (up H3 z4 (.list [.str C4,.str yt])) wd (.list (Ae wds++Ae [C4,yt]))=H5 at E5 hwd5;have E05:=(E1.trans E2).trans E5;have hpu5:=E5 _ _ hpu;clear hz3 hz4 E4 E3 hpu hzn E1 E2 E5;refine Ab λK nx=>⟨rfl,?_⟩
 intro a ha;have E6:=E05.new (o:=.tuple [.ref b,.ref tw]) ha;have E56:=Ext.refl.new (o:=.tuple [.ref b,.ref tw]) ha;have ha6:up H5 a (.tuple [.ref b,.ref tw]) a=some (.tuple [.ref b,.ref tw]):=Ah;generalize up H5 a (.tuple [.ref b,.ref tw])=H6 at E6 E56 ha6;have b6:=E6 _ _ hb;have t6:=E6 _ _ htw;have nab:a≠b:=λe=>by rw[e,b6]at ha6;exact AObj.noConfusion (Ak ha6)
 have nat:a≠tw:=λe=>by rw[e,t6]at ha6;exact AObj.noConfusion (Ak ha6)
 have p1:pur.length<=100:=FA hpl c1 (by decide)
 refine QX ha6 ⟨show 8<14 by decide,?_⟩;refine OM (n:=n+2) G (E6 _ _ hs) hl (E56 _ _ hpu5) nd1 np p1 b6 λH7 p9 K7 b7=>⟨K7 _ _ nab ha6,?_⟩
 have kp7:=Kp.kb b6 K7;refine⟨show 8<14 by decide,?_⟩;refine OM (n:=n+2) G (kp7 _ _ rfl (E6 _ _ hs)) hl (kp7 _ _ rfl (E56 _ _ hpu5)) nd1 np p1 (K7 _ _ hne t6) λH8 p9' K8 t8=>⟨K8 _ _ nat (K7 _ _ nab ha6),nx _ _ ?_⟩
 have kp8:=kp7.trans (Kp.kb (K7 _ _ hne t6) K8);have b8:=K8 _ _ hne.symm b7;have hs8:=kp8 _ _ rfl (E6 _ _ hs);have hpu8:=kp8 _ _ rfl (E56 _ _ hpu5);have hwd8:=kp8 _ _ rfl (E56 _ _ hwd5);have O:=Op.all (a:=am ns) nd1 pur.length;rw[take_length]at O;generalize pur.foldl (Ch (am ns)) ⟨0,[],[],[]⟩=B at b8 t8 O;clear kp7 kp8 K7 K8 b7 b6 t6 nab nat ha6 ha E6 E56 E05 hpu5 hwd5 hs hb htw;refine Ab λK nx=>?_;have nw2:∀s∈wds++[C4,yt],A9 s=true:=λs h=>by
  rcases mem_append.mp h with h|h
  ·exact nw s h
  ·exact(by decide +kernel:∀s∈[C4,yt],A9 s=true) s h
 refine Yj (n:=n+4) (wds:=wds) (w2:=[C4,yt]) G rfl rfl (by refine rl hwdl ?_;rfl) rfl rfl hs8 hl hpu8 hwd8 nd1 (F8 hpl c0) p1 (by lia) (by refine rl length_append (rl hwdl ?_);show mn+2<=100;lia) np nw2 λro H9 rts rs E9 hro hR hn ok=>⟨show 10<14 by decide,nx _ _ ?_⟩
 have hrl:rs.length=mn:=by exact rl (Eq.symm (hwdl ..)) (rl (Eq.symm (hn ..)) (rl (length_map ..) rfl))
 have R:Rok pur rs:=⟨p1,np,ok,by refine rl hn ?_;exact nd2,λr hr=>nw _ (by refine rl hn.symm ?_;exact mem_map_of_mem hr),FA hrl m1 (by decide)⟩
 refine Ab λK nx=>?_;intro tl htl;refine⟨show 11<14 by decide,nx _ _ ?_⟩;refine Ab λK nx=>?_;intro hd hhd;refine⟨show 12<14 by decide,nx _ _ ?_⟩;have Et:=Ext.refl.new (o:=.list []) htl;have Eh:=Ext.refl.new (o:=.list []) hhd;have Eth:=Et.trans Eh;have e0:rs.take 0=[]:=rfl;have L:Ls ns pur rs H9 sp b tw ro tl hd rts 0 B [] (up (up H9 tl (.list [])) hd (.list [])):=⟨Eth _ _ (E9 _ _ hs8),Eth _ _ (E9 _ _ b8),Eth _ _ (E9 _ _ t8),hne,Eth _ _ hro,Eh _ _ Ah,hR,.ext Eth,Et.none hhd,⟨O.fk,O.ak,by refine rl O.ps ?_;rfl,λx hx=>by rw[O.ps]at hx;trivial⟩,λx hx=>by rw[O.ps]at hx;trivial,zero_le _,⟨Ah,λy hy=>by trivial⟩,Cd hro (Et.none hhd),λe=>by rw[<-e,Ah]at hhd;trivial⟩
 generalize up (up H9 tl (.list [])) hd (.list [])=H10 at L;have:=Xs (n:=n) (QN:=QN) (QR:=QR) (EE:=EE) (v3:=some (.int cn)) (v5:=some (.ref zn)) (v6:=some (.ref pu)) (v7:=some (.ref wd)) (v8:=some (.ref tw)) (v9:=p9') G R hl L (λr hr=>nv _ (rl hn.symm (mem_map_of_mem hr))) (F8 hrl m0) q;rw[hrl]at this;exact this
end
section
variable(G:Gd c L13.P)
include G
theorem We(hs:H sp=some (.script ns))(hl:ns.length<=63):CallOK c (n+7) true "law" [.ref sp] (λv _=>v = .bool true) (λ_ _=>False) H:=by
 refine G.call (F:=L13.Zs) rfl rfl ?_;show Af _ _ _ _ _ [some (.ref sp),none,none,none,none,none,none,none,none,none,none,none,none,none] _;have hl':ns.length<2 ^ 62:=lt_of_le_of_lt hl (by decide);refine Ab λK nx=>?_;dsimp only[At,AN,Al,An];refine P1 (c:=c) rfl G U13.a ⟨_,rfl⟩ λb hb=>P1 (c:=c) rfl G U13.a ⟨_,rfl⟩ λtw htw=>?_;intro t ht;dsimp only[Dm];refine⟨rfl,?_⟩;show match up _ t (.tuple _) t with|some (.tuple xs)=>_|some (.list xs)=>_|_=>False
 refine rl Ah ⟨rfl,nx _ _ ?_⟩;show Af _ _ _ _ _ [some (.ref sp),some (.ref b),some (.ref tw),none,none,none,none,none,none,none,none,none,none,none] _;have hne:tw≠b:=λe=>by rw[e,Ah]at htw;trivial
 have E1:=((Ext.refl.new (o:=.book ⟨0,[],[],[]⟩) hb).new (o:=.book ⟨0,[],[],[]⟩) htw).new (o:=.tuple [.ref b,.ref tw]) ht;have hb1:up (up (up H b (.book ⟨0,[],[],[]⟩)) tw (.book ⟨0,[],[],[]⟩)) t (.tuple [.ref b,.ref tw]) b=some (.book ⟨0,[],[],[]⟩):=CW (CW Ah htw) ht;have ht1:up (up (up H b (.book ⟨0,[],[],[]⟩)) tw (.book ⟨0,[],[],[]⟩)) t (.tuple [.ref b,.ref tw]) tw=some (.book ⟨0,[],[],[]⟩):=CW Ah ht;have hs1:=E1 _ _ hs;generalize up (up (up H b (.book ⟨0,[],[],[]⟩)) tw (.book ⟨0,[],[],[]⟩)) t (.tuple [.ref b,.ref tw])=H1 at hb1 ht1 hs1;clear E1 ht htw hb hs;have cl:∀{Q:AV->Ac->Prop} {E:String->Ac->Prop} {k:Int},0<=k->Q (.int (cell ns k.toNat)) H1->CallOK c (n+6) true "_law_cell_at" [.ref sp,.int k] Q E H1:=λh q=>GL (n:=n+5) G rfl h hs1 hl' q;refine Ab λK nx=>?_;dsimp only[At,tv,length_cons,length_nil,Nat.reduceAdd,set_cons_succ,set_cons_zero,Av,Aq,A6,Al,An,Ad,Aw];refine cl (by decide) ⟨by decide,by decide,nx _ _ ?_⟩;refine Ab λK nx=>?_
 suffices go:∀cn:Nat,2<=cn->cn<=12->K [some (.ref sp),some (.ref b),some (.ref tw),some (.int cn),none,none,none,none,none,none,none,none,none,none] H1 by
  have a0:=BD (x:=cell ns 0) (m:=4) (by decide);have a1:=BV (x:=cell ns 0) (m:=4) (by decide);have b0:=BD (x:=(cell ns 0).fdiv 24) (m:=3) (by decide);have b1:=BV (x:=(cell ns 0).fdiv 24) (m:=3) (by decide);dsimp only[A7];dsimp only[Int.toNat_zero,Ar,Aq,Av,A6,Al,An,Ad,Aw];refine cl (by decide) ⟨by decide,by decide,?_⟩;dsimp only[AD,Az];split
  ·dsimp only[BG,Ci,At,tv,length_cons,length_nil,Nat.reduceAdd,set_cons_succ,set_cons_zero,Av,Aq,A6,Al,An,Ad,Aw];refine cl (by decide) ⟨by decide,by decide,by decide,?_⟩;have:=go (10+((cell ns 0).fdiv 24).fmod 3).toNat (K9 b0) (KL b1);rw[toNat_of_nonneg (K_ b0)]at this;exact this
  ·have:=go (2+(cell ns 0).fmod 4).toNat (KH a0) (by lia);rw[toNat_of_nonneg (by lia)]at this;exact this
 intro cn c0 c1;refine nx _ _ ?_;refine Ab λK nx=>?_;dsimp only[At,tv,length_cons,length_nil,Nat.reduceAdd,set_cons_succ,set_cons_zero,Av,Aq,A6,Al,An,Ad,Aw];refine cl (by decide) ⟨by decide,by decide,nx _ _ ?_⟩;have a0:=BD (x:=cell ns 1) (m:=5) (by decide);have a1:=BV (x:=cell ns 1) (m:=5) (by decide);refine Ab λK nx=>?_
 suffices go:∀mn:Int,2<=mn->mn<=30->K [some (.ref sp),some (.ref b),some (.ref tw),some (.int cn),some (.int mn),none,none,none,none,none,none,none,none,none] H1 by
  have b0:=BD (x:=(cell ns 1).fdiv 25) (m:=3) (by decide);have b1:=BV (x:=(cell ns 1).fdiv 25) (m:=3) (by decide);dsimp only[A7];dsimp only[Int.toNat_one,Ar,Aq,Av,A6,Al,An,Ad,Aw];refine cl (by decide) ⟨by decide,by decide,?_⟩;dsimp only[AD,Az];split
  ·dsimp only[BG,Ci,At,tv,length_cons,length_nil,Nat.reduceAdd,set_cons_succ,set_cons_zero,Av,Aq,A6,Al,An,Ad,Aw];exact cl (by decide) ⟨by decide,by decide,by decide,go _ (by exact(show(2:Int)<=8+((cell ns 1).fdiv 25).fmod 3 from La b0 (by decide))) (by exact(show 8+((cell ns 1).fdiv 25).fmod 3<=(30:Int) by lia))⟩
  ·exact go _ (show(2:Int)<=2+(cell ns 1).fmod 5 from Int.le_add_of_nonneg_right a0) (show 2+(cell ns 1).fmod 5<=(30:Int) by lia)
 intro m m0 m1;refine nx _ _<|Ab λK nx=>?_
 suffices go:∀mn:Nat,2<=mn->mn<=30->K [some (.ref sp),some (.ref b),some (.ref tw),some (.int cn),some (.int mn),none,none,none,none,none,none,none,none,none] H1 by
  have b0:=BD (x:=(cell ns 1).fdiv 50) (m:=15) (by decide);have b1:=BV (x:=(cell ns 1).fdiv 50) (m:=15) (by decide);dsimp only[A7];dsimp only[Ar,Aq,Av,A6,Al,An,Ad,Aw];refine cl (by decide) ⟨by decide,by decide,?_⟩;dsimp only[AD,Az];split
  ·dsimp only[BG,Ci,At,tv,length_cons,length_nil,Nat.reduceAdd,set_cons_succ,set_cons_zero,Av,Aq,A6,Al,An,Ad,Aw];refine cl (by decide) ⟨by decide,by decide,by decide,?_⟩;have:=go (16+((cell ns 1).fdiv 50).fmod 15).toNat (KA b0) (KJ b1);rw[toNat_of_nonneg (KY b0)]at this;exact this
  ·have:=go m.toNat (by lia) (by lia);rw[toNat_of_nonneg (Int.le_trans (by decide) m0)]at this;exact this
 intro mn m0 m1;exact nx _ _<|Xu (n:=n) G hs1 hl hb1 ht1 hne c0 c1 m0 m1 λH'=>rfl
end
end
namespace L13
theorem law_ok{c:Cx}(G:Gd c P){n:Nat}{H:Ac}{sp:Addr}{ns:List Int}(h:H sp=some (.script ns))(hl:ns.length<=63):CallOK c (n+7) true "law" [.ref sp] (λv _=>v = .bool true) (λ_ _=>False) H:=We G h hl
end L13
namespace L13
noncomputable def view:Program:=PySem.W.view PySem.Challenge.pw_uf020038_13 [50]
noncomputable def loose:List Str:=[ofString "_wall",ofString "__name__",ofString "BookError",ofString "NoName",ofString "NoAmount",ofString "Taken",ofString "NoPurse",ofString "TooLittle",ofString "NoRow",ofString "Twice",ofString "Uneven",ofString "Fallen",ofString "NoDay",ofString "NoPact",ofString "NotOpen",ofString "NoPart",ofString "Already",ofString "Pact",ofString "are_met",ofString "table_of",ofString "greatest",ofString "chain",ofString "LETTERS",ofString "MOST_SIGNS",ofString "MOST_AMOUNT",ofString "is_whole",ofString "is_name",ofString "name_of",ofString "amount_of",ofString "MOST",ofString "Book",ofString "_law_cell_at",ofString "_law_mixed",ofString "_law_word",ofString "_law_pact_by",ofString "_law_tell",ofString "_law_try",ofString "_law_round",ofString "_law_steps",ofString "_law_way",ofString "_law_why",ofString "_law_asked",ofString "_law_why_behind",ofString "_law_settled",ofString "_law_refused"]
noncomputable def hook:Hook:=P6 P (3::(List.range 593).drop 11)
theorem left:LeftO PySem.Challenge.pw_uf020038_13 view loose (λs=>xlAt view [] s&&recOk [] s) hook.obs hook.val 30000 true:=
 Xr T_ (m₀:=11) (ann:=some (.ref 6)) rfl rfl (λs=>rfl) (λw=>by kernel_rfl) (λw os=>by kernel_rfl)
end L13
end Mine.Internal
open PySem.W.X in
set_option maxHeartbeats 0 in
theorem PySem.Challenge.cw_uf020038_13_holds : PySem.Challenge.rw_uf020038_13.Holds := by
 w_on
 refine holds_law (by decide +kernel) fun said=>?_;refine holds_open (q:=Mine.Internal.L13.view) (loose:=Mine.Internal.L13.loose) (Xt:=fun s=>xlAt Mine.Internal.L13.view [] s&&recOk [] s) (XP:=XL Mine.Internal.L13.view []) (Yf:=Mine.Internal.L13.hook.obs) (Ya:=Mine.Internal.L13.hook.val) (YP:=Mine.Internal.L13.hook.says) (N:=30000) Mine.Internal.L13.left Mine.Internal.L13.hook.of Mine.Internal.L13.hook.keeps (fun s e=>xl_of s (Bool.and_eq_true_iff.mp e).1) XL.keeps (by rfl) (by rfl) (by rfl) (fun s e=>recFacts_of (Bool.and_eq_true_iff.mp e).2) (by rfl) (by first | assumption | decide +kernel) (by decide +kernel) ⟨rfl,rfl,rfl,rfl,rfl,by decide +kernel⟩ ?hw ?hc
 case hw=>w_witness2
 case hc =>
  intro w s₀ s₁ mg mb G Y fa o pm cd doc dV kV ho hd hcd hD hmg hg args vals as hpre hlay hrd hwl hlo;obtain ⟨K,KX,hok⟩:=Y;clear ho hd hcd hD;refine Ground.open G ?_;intro T B D TE TW
  wrow_args hpre hlay hrd hwl hlo
  clear G B D TE TW;have hseer:=T.seer (by decide +kernel);refine Mine.Internal.enter (P:=Mine.Internal.L13.P) (n:=7) (by decide) KX T hseer (by rfl) rfl hmg hok (by rfl) (Mine.Internal.script_get (by assumption) (by assumption)) (by assumption) ?mineC ?mineQ
  case mineC =>
   intro c hP C PO FO;exact Mine.Internal.L13.law_ok (n:=0) ⟨hP,⟨_,_,C⟩,PO,FO⟩ Mine.Internal.scriptH_at (by omega)
  case mineQ =>
   intro s' st ho hgn;exact GoodW.toG ⟨.inl ⟨.bool true,.bool true,[],rfl,fun _=>rfl,.bool true,by kernel_rfl,fun _=>⟨nodup_nil,fun a ha=>by cases ha⟩⟩,st,ho,hgn.trans hg⟩




#print axioms PySem.Challenge.cw_uf020038_13_holds
