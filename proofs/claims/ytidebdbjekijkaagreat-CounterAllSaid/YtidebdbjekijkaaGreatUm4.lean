/- What the laws need. No condition but those that each lemma states. -/
import Derived.Deep.QuietTactic
import Derived.Lib.AppendZerosOnto
import Derived.Lib.SliceRun
import Derived.RegionTactic
import Derived.Shelf.Abstract
import Derived.Shelf.Slices.CompactS
import Derived.Shelf.Slices.In.SortNone
import Derived.Shelf.Sort.Plain
import Derived.Test.YtidebdbjekijkaaGreatProg
import Derived.Test.YtidebdbjekijkaaGreatUm3
import Derived.Test.YtidebdbjekijkaaGreatUm2
import Derived.Test.YtidebdbjekijkaaGreatUm1
set_option maxRecDepth 100000
set_option maxHeartbeats 8000000
set_option linter.unusedSimpArgs false
namespace Go.Proofs.YtidebdbjekijkaaGreat
open Go.RowKit
theorem YY {a b:Dt}(h:a.lt b=false)(k:b.lt a=false):a=b:=by
 obtain⟨x,y⟩:=a
 obtain⟨u,v⟩:=b
 unfold Dt.lt at h k
 split at h<;>split at k<;>simp at *<;>omega
inductive Tr.Ord:Tr->Prop
 |mk {es:List En}{ks:List Kd}(h1:es.Pairwise fun a b=>a.dot.lt b.dot=true) (h2:ks.Pairwise fun a b=>ltS a.1 b.1=true) (h3:∀ k t,(k,t)∈ks->k≠ByteArray.empty/\t.empty=false) (h4:∀ k t,(k,t)∈ks->Tr.Ord t):Tr.Ord (.mk es ks)
theorem QV {es:List En}{ks:List Kd}:Tr.Ord (.mk es ks)↔(es.Pairwise fun a b=>a.dot.lt b.dot=true)/\(ks.Pairwise fun a b=>ltS a.1 b.1=true)/\∀ k t,(k,t)∈ks->k≠ByteArray.empty/\t.empty=false/\t.Ord:=
 ⟨fun h=>by cases h with|mk h1 h2 h3 h4=>exact⟨h1,h2,fun k t hm=>⟨(h3 k t hm).1,(h3 k t hm).2,h4 k t hm⟩⟩,fun h=>.mk h.1 h.2.1 (fun k t hm=>⟨(h.2.2 k t hm).1,(h.2.2 k t hm).2.1⟩) fun k t hm=>(h.2.2 k t hm).2.2⟩
theorem Ord.mk' {es:List En}{ks:List Kd}(h1:es.Pairwise fun a b=>a.dot.lt b.dot=true)(h2:ks.Pairwise fun a b=>ltS a.1 b.1=true)(h3:∀ k t,(k,t)∈ks->k≠ByteArray.empty/\t.empty=false/\t.Ord):Tr.Ord (.mk es ks):=QV.2 ⟨h1,h2,h3⟩
theorem Jf:∀ (es:List En) (p:Option Dt),entsB p es=true->(es.Pairwise fun a b=>a.dot.lt b.dot=true)/\∀ e∈es,okP p e.dot=true
 |[],_,_=>⟨.nil,fun _ h=>by cases h⟩
 |e :: es,p,h=>by
  rw[Q4,Bool.and_eq_true,Bool.and_eq_true]at h
  obtain⟨h1,h2⟩:=Jf es _ h.2
  refine⟨.cons (fun a ha=>h2 a ha) h1,fun a ha=>?_⟩
  rcases List.mem_cons.1 ha with rfl|ha
  ·exact h.1.2
  ·exact X8 h.1.2 (h2 a ha)
theorem V8 {p:Option ByteArray}{a b:ByteArray}(h:okK p a=true)(k:ltS a b=true):okK p b=true:=by
 cases p with
 |none=>rfl
 |some q=>exact QI h k
theorem qYm {k:ByteArray}(h:keyB k=true):k≠ByteArray.empty:=fun e=>by
 subst e;simp[keyB]at h
theorem Jg (d:Int):∀ (ks:List Kd) (p:Option ByteArray),Tr.rightL p ks d=true->(ks.Pairwise fun a b=>ltS a.1 b.1=true)/\(∀ x∈ks,okK p x.1=true)/\∀ k t,(k,t)∈ks->k≠ByteArray.empty/\t.empty=false/\t.right (d-1)=true
 |[],_,_=>⟨.nil,fun _ h=>(by cases h),fun _ _ h=>by cases h⟩
 |(k,t) :: ks,p,h=>by
  rw[QL,Bool.and_eq_true,Bool.and_eq_true,Bool.and_eq_true,Bool.and_eq_true]at h
  obtain⟨⟨⟨⟨a1,a2⟩,a3⟩,a4⟩,a5⟩:=h
  obtain⟨h1,h2,h3⟩:=Jg d ks _ a5
  refine⟨.cons (fun a ha=>h2 a ha) h1,fun a ha=>?_,fun k' t' hm=>?_⟩
  ·rcases List.mem_cons.1 ha with rfl|ha
   ·exact a2
   ·exact V8 a2 (h2 a ha)
  ·rcases List.mem_cons.1 hm with e|hm
   ·cases e;exact⟨qYm a1,by simpa using a3,a4⟩
   ·exact h3 k' t' hm
theorem Jh:∀ (t:Tr) (d:Int),t.right d=true->t.Ord:=by
 intro t
 induction t using Tr.ind with
 |h es ks ih=>
 intro d h
 rw[Tr.right,Bool.and_eq_true,Bool.and_eq_true]at h
 obtain⟨h1,h2,h3⟩:=Jg d ks none h.2
 exact Ord.mk' (Jf es none h.1.2).1 h1 fun k t hm=>⟨(h3 k t hm).1,(h3 k t hm).2.1,ih k t hm _ (h3 k t hm).2.2⟩
/-! the leaves of a tree -/
mutual
theorem lvs_pre:∀ (t:Tr) (p q:List ByteArray),t.lvs (p++q)=(t.lvs q).map fun x=>(p++x.1,x.2)
 |.mk es ks,p,q=>by rw[Tr.lvs,Tr.lvs,List.map_append,List.map_map,lvsL_pre ks p q];rfl
theorem lvsL_pre:∀ (ks:List (ByteArray×Tr)) (p q:List ByteArray),Tr.lvsL ks (p++q)=(Tr.lvsL ks q).map fun x=>(p++x.1,x.2)
 |[],p,q=>rfl
 |(k,t) :: ks,p,q=>by rw[Tr.lvsL,Tr.lvsL,List.map_append,lvsL_pre ks p q,List.append_assoc,lvs_pre t p (q++[k])]
end
theorem qYb (t:Tr)(p:List ByteArray):t.lvs p=(t.lvs []).map fun x=>(p++x.1,x.2):=by
 have:=lvs_pre t p [];simpa using this
theorem qXa {ks:List Kd}{p:List ByteArray}{x:Lf}:x∈Tr.lvsL ks p↔∃ k t,(k,t)∈ks/\x∈t.lvs (p++[k]):=by
 induction ks with
 |nil=>simp[Tr.lvsL]
 |cons y ks ih=>
  obtain⟨k,t⟩:=y
  rw[Tr.lvsL,List.mem_append,ih]
  constructor
  ·rintro (h|⟨k',t',hm,h⟩)
   ·exact⟨k,t,by simp,h⟩
   ·exact⟨k',t',by simp[hm],h⟩
  ·rintro⟨k',t',hm,h⟩
   rcases List.mem_cons.1 hm with e|hm
   ·cases e;exact .inl h
   ·exact .inr ⟨k',t',hm,h⟩
theorem J2 {es:List En}{ks:List Kd}{x:Lf}:x∈(Tr.mk es ks).lvs []↔(x.1=[]/\x.2∈es)∨∃ k t qs,(k,t)∈ks/\x.1=k :: qs/\(qs,x.2)∈t.lvs []:=by
 rw[Tr.lvs,List.mem_append,qXa]
 constructor
 ·rintro (h|⟨k,t,hm,h⟩)
  ·obtain⟨e,he,rfl⟩:=List.mem_map.1 h
   exact .inl ⟨rfl,he⟩
  ·rw[qYb]at h
   obtain⟨y,hy,rfl⟩:=List.mem_map.1 h
   exact .inr ⟨k,t,y.1,hm,rfl,hy⟩
 ·obtain⟨p,e⟩:=x
  rintro (⟨h1,h2⟩|⟨k,t,qs,hm,h1,h2⟩)
  ·cases h1;exact .inl (List.mem_map.2 ⟨e,h2,rfl⟩)
  ·cases h1;exact .inr ⟨k,t,hm,by rw[qYb];exact List.mem_map.2 ⟨(qs,e),h2,rfl⟩⟩
theorem Q9 {es:List En}{ks:List Kd}{e:En}:(([],e):Lf)∈(Tr.mk es ks).lvs []↔e∈es:=by
 rw[J2];simp
theorem Qq {es:List En}{ks:List Kd}{e:En}{k:ByteArray}{qs:List ByteArray}:((k :: qs,e):Lf)∈(Tr.mk es ks).lvs []↔∃ t,(k,t)∈ks/\(qs,e)∈t.lvs []:=by
 rw[J2]
 constructor
 ·rintro (⟨h,_⟩|⟨k',t,qs',hm,h,h2⟩)
  ·cases h
  ·cases h;exact⟨t,hm,h2⟩
 ·rintro⟨t,hm,h⟩;exact .inr ⟨k,t,qs,hm,rfl,h⟩
theorem XQ:∀ (t:Tr),t.Ord->t.empty=false->∃ x,x∈t.lvs []:=by
 intro t
 induction t using Tr.ind with
 |h es ks ih=>
 intro h he
 obtain⟨_,_,h3⟩:=QV.1 h
 cases es with
 |cons e es=>exact⟨([],e),Q9.2 (by simp)⟩
 |nil=>
  cases ks with
  |nil=>simp[Tr.empty]at he
  |cons y ks=>
   obtain⟨k,t⟩:=y
   obtain⟨x,hx⟩:=ih k t (by simp) (h3 k t (by simp)).2.2 (h3 k t (by simp)).2.1
   exact⟨(k :: x.1,x.2),Qq.2 ⟨t,by simp,hx⟩⟩
theorem ZD {α:Type}{r:α->α->Bool}(hi:∀ a,r a a=false)(ht:∀ a b c,r a b=true->r b c=true->r a c=true):∀ {l m:List α},(l.Pairwise fun a b=>r a b=true)->(m.Pairwise fun a b=>r a b=true)->(∀ x,x∈l↔x∈m)->l=m
 |[],[],_,_,_=>rfl
 |[],y :: m,_,_,h=>by have:=(h y).2 (by simp);cases this
 |x :: l,[],_,_,h=>by have:=(h x).1 (by simp);cases this
 |x :: l,y :: m,hl,hm,h=>by
  rw[List.pairwise_cons]at hl hm
  have hxy:x=y:=by
   rcases List.mem_cons.1 ((h x).1 (by simp)) with e|e
   ·exact e
   ·rcases List.mem_cons.1 ((h y).2 (by simp)) with e'|e'
    ·exact e'.symm
    ·have:=ht _ _ _ (hl.1 y e') (hm.1 x e);rw[hi]at this;cases this
  subst hxy
  congr 1
  refine ZD hi ht hl.2 hm.2 fun z=>?_
  constructor
  ·intro hz
   rcases List.mem_cons.1 ((h z).1 (List.mem_cons_of_mem _ hz)) with e|e
   ·subst e;have:=hl.1 z hz;rw[hi]at this;cases this
   ·exact e
  ·intro hz
   rcases List.mem_cons.1 ((h z).2 (List.mem_cons_of_mem _ hz)) with e|e
   ·subst e;have:=hm.1 z hz;rw[hi]at this;cases this
   ·exact e
theorem Z8 {ks:List Kd}(h:ks.Pairwise fun a b=>ltS a.1 b.1=true){k:ByteArray}{s t:Tr}(hs:(k,s)∈ks)(ht:(k,t)∈ks):s=t:=by
 induction ks with
 |nil=>cases hs
 |cons y ks ih=>
  rw[List.pairwise_cons]at h
  rcases List.mem_cons.1 hs with e|hs
  ·rcases List.mem_cons.1 ht with e'|ht
   ·rw[←e]at e';cases e';rfl
   ·have:=h.1 _ ht;rw[←e]at this;simp only[Qz]at this;cases this
  ·rcases List.mem_cons.1 ht with e'|ht
   ·have:=h.1 _ hs;rw[←e']at this;simp only[Qz]at this;cases this
   ·exact ih h.2 hs ht
theorem qYn:∀ (s t:Tr),s.Ord->t.Ord->(∀ x,x∈s.lvs []↔x∈t.lvs [])->s=t:=by
 intro s
 induction s using Tr.ind with
 |h es ks ih=>
 intro t hs ht h
 obtain⟨es',ks'⟩:=t
 obtain⟨s1,s2,s3⟩:=QV.1 hs
 obtain⟨t1,t2,t3⟩:=QV.1 ht
 have he:es=es':=ZD (r:=fun a b:En=>a.dot.lt b.dot) (fun a=>Zl _) (fun _ _ _=>X7) s1 t1 fun e=>by
  rw[←Q9 (ks:=ks),←Q9 (ks:=ks')];exact h _
 have hk:∀ k s,(k,s)∈ks->(k,s)∈ks':=fun k s hm=>by
  obtain⟨h1,h2,h3⟩:=s3 k s hm
  obtain⟨x,hx⟩:=XQ s h3 h2
  obtain⟨u,hu,hxu⟩:=Qq.1 ((h (k :: x.1,x.2)).1 (Qq.2 ⟨s,hm,hx⟩))
  have:s=u:=ih k s hm u h3 (t3 k u hu).2.2 fun y=>by
   constructor
   ·intro hy
    obtain⟨v,hv,hyv⟩:=Qq.1 ((h (k :: y.1,y.2)).1 (Qq.2 ⟨s,hm,hy⟩))
    rw[Z8 t2 hu hv];exact hyv
   ·intro hy
    obtain⟨v,hv,hyv⟩:=Qq.1 ((h (k :: y.1,y.2)).2 (Qq.2 ⟨u,hu,hy⟩))
    rw[Z8 s2 hm hv];exact hyv
  rw[this];exact hu
 have hk':∀ k u,(k,u)∈ks'->(k,u)∈ks:=fun k u hm=>by
  obtain⟨h1,h2,h3⟩:=t3 k u hm
  obtain⟨x,hx⟩:=XQ u h3 h2
  obtain⟨s,hs',_⟩:=Qq.1 ((h (k :: x.1,x.2)).2 (Qq.2 ⟨u,hm,hx⟩))
  have:=Z8 t2 hm (hk k s hs')
  rw[this];exact hs'
 have hkk:ks=ks':=ZD (r:=fun a b:Kd=>ltS a.1 b.1) (fun a=>Qz _) (fun _ _ _=>QI) s2 t2 fun ⟨k,t⟩=>⟨hk k t,hk' k t⟩
 rw[he,hkk]
/-! what Build takes -/
structure LvOk (l:List Lf):Prop where
 key:∀ x∈l,∀ k∈x.1,k≠ByteArray.empty
 one:∀ x∈l,∀ y∈l,x.1=y.1->x.2.dot=y.2.dot->x=y
theorem qXb:∀ (t:Tr),t.Ord->LvOk (t.lvs []):=by
 intro t
 induction t using Tr.ind with
 |h es ks ih=>
 intro h
 obtain⟨h1,h2,h3⟩:=QV.1 h
 refine⟨fun x hx k hk=>?_,fun x hx y hy hp hd=>?_⟩
 ·rcases J2.1 hx with⟨hn,_⟩|⟨k',t,qs,hm,hq,hl⟩
  ·rw[hn]at hk;cases hk
  ·rw[hq]at hk
   rcases List.mem_cons.1 hk with rfl|hk
   ·exact (h3 _ t hm).1
   ·exact (ih k' t hm (h3 k' t hm).2.2).key _ hl k hk
 ·obtain⟨p,e⟩:=x
  obtain⟨p',e'⟩:=y
  simp only at hp hd;subst hp
  cases p with
  |nil=>
   have a:=Q9.1 hx
   have b:=Q9.1 hy
   have:e=e':=by
    clear hx hy h ih h2 h3
    induction es with
    |nil=>cases a
    |cons z es ih=>
     rw[List.pairwise_cons]at h1
     rcases List.mem_cons.1 a with a'|a'
     ·rcases List.mem_cons.1 b with b'|b'
      ·rw[a',b']
      ·have:=h1.1 _ b';rw[←hd,a',Zl]at this;cases this
     ·rcases List.mem_cons.1 b with b'|b'
      ·have:=h1.1 _ a';rw[hd,b',Zl]at this;cases this
      ·exact ih h1.2 a' b'
   rw[this]
  |cons k qs=>
   obtain⟨t,hm,ha⟩:=Qq.1 hx
   obtain⟨t',hm',hb⟩:=Qq.1 hy
   rw[Z8 h2 hm' hm]at hb
   have:=(ih k t hm (h3 k t hm).2.2).one _ ha _ hb rfl hd
   cases this;rfl
def kidT (t:Tr)(s:ByteArray):Tr:=match t.ks.find? fun x=>decide (x.1=s) with|some x=>x.2|none=>.mk [] []
theorem V9:Tr.Ord (.mk [] []):=Ord.mk' .nil .nil fun _ _ h=>by cases h
theorem Z9 {t:Tr}(h:t.Ord){s:ByteArray}{u:Tr}(hm:(s,u)∈t.ks):kidT t s=u:=by
 obtain⟨es,ks⟩:=t
 unfold kidT
 cases hf:(Tr.mk es ks).ks.find? fun x=>decide (x.1=s) with
 |none=>
  have:=List.find?_eq_none.1 hf _ hm
  simp at this
 |some x=>
  have h1:=List.find?_some hf
  have h2:=List.mem_of_find?_eq_some hf
  simp at h1
  obtain⟨k,v⟩:=x
  simp only at h1;subst h1
  exact Z8 (QV.1 h).2.1 h2 hm
theorem Ya {t:Tr}{s:ByteArray}(h:∀ u,(s,u)∉t.ks):kidT t s=.mk [] []:=by
 unfold kidT
 rw[List.find?_eq_none.2]
 rintro⟨k,u⟩ hm e
 simp at e;subst e
 exact h u hm
theorem ZE {t:Tr}(h:t.Ord)(s:ByteArray):(kidT t s).Ord:=by
 by_cases hm:∃ u,(s,u)∈t.ks
 ·obtain⟨u,hm⟩:=hm
  rw[Z9 h hm]
  obtain⟨es,ks⟩:=t
  exact ((QV.1 h).2.2 s u hm).2.2
 ·rw[Ya fun u hu=>hm ⟨u,hu⟩];exact V9
theorem KD {t:Tr}(h:t.Ord){s:ByteArray}{qs:List ByteArray}{e:En}:((qs,e):Lf)∈(kidT t s).lvs []↔((s :: qs,e):Lf)∈t.lvs []:=by
 obtain⟨es,ks⟩:=t
 rw[Qq]
 constructor
 ·intro hx
  by_cases hm:∃ u,(s,u)∈(Tr.mk es ks).ks
  ·obtain⟨u,hm⟩:=hm
   rw[Z9 h hm]at hx
   exact⟨u,hm,hx⟩
  ·rw[Ya fun u hu=>hm ⟨u,hu⟩]at hx;simp[Tr.lvs,Tr.lvsL]at hx
 ·rintro⟨u,hm,hx⟩
  rw[Z9 h (show (s,u)∈(Tr.mk es ks).ks from hm)];exact hx
theorem KE {s:ByteArray}:∀ {ks:List Kd}{x:Kd},ks.find? (fun x=>decide (x.1=s))=some x->x.2.sz<=Tr.szL ks
 |(k,t) :: ks,x,h=>by
  rw[Tr.szL]
  rw[List.find?_cons]at h
  split at h
  ·cases h;simp;omega
  ·have:=KE h;omega
theorem qQa (t:Tr)(s:ByteArray):(kidT t s).sz<=t.sz:=by
 obtain⟨es,ks⟩:=t
 unfold kidT
 cases hf:(Tr.mk es ks).ks.find? fun x=>decide (x.1=s) with
 |none=>simp[Tr.sz,Tr.szL]
 |some x=>
  have:=KE (show ks.find? _=some x from hf)
  rw[Tr.sz];simp only;omega
theorem Yz (w:World)(ok:Nat->Prop):(Tr.mk [] []).rda w ok (.slice none 0 0) (.slice none 0 0):=by
 rw[ZP]
 exact⟨⟨none,0,rfl,Nat.le_refl _,by simp,fun h=>absurd rfl h⟩,⟨none,0,rfl,Nat.le_refl _,by simp,fun h=>absurd rfl h⟩⟩
theorem box3 {w:World}{g:Nat}{x y z:Value}{e:TypeId}(hbx:w.heap[g]?=some (.cells #[x,y,z] e (0,0)))(a b c:Value) :
  (((w.setCell ⟨g,0,none⟩ a).setCell ⟨g,1,none⟩ b).setCell ⟨g,2,none⟩ c).cell? ⟨g,0,none⟩=some a/\(((w.setCell ⟨g,0,none⟩ a).setCell ⟨g,1,none⟩ b).setCell ⟨g,2,none⟩ c).cell? ⟨g,1,none⟩=some b/\(((w.setCell ⟨g,0,none⟩ a).setCell ⟨g,1,none⟩ b).setCell ⟨g,2,none⟩ c).cell? ⟨g,2,none⟩=some c /\
   (∀ k,k≠g->(((w.setCell ⟨g,0,none⟩ a).setCell ⟨g,1,none⟩ b).setCell ⟨g,2,none⟩ c).heap[k]?=w.heap[k]?)/\(((w.setCell ⟨g,0,none⟩ a).setCell ⟨g,1,none⟩ b).setCell ⟨g,2,none⟩ c).heap.size=w.heap.size:=by
 have hW:=Qe (i:=2) (Qe (i:=1) (Qe (i:=0) hbx a) b) c
 exact⟨(Qa (i:=0) hW).trans (by simp),(Qa (i:=1) hW).trans (by simp),(Qa (i:=2) hW).trans (by simp),
  fun k hk=>(Below.heap_setCell _ _ _ _ hk).trans ((Below.heap_setCell _ _ _ _ hk).trans (Below.heap_setCell _ _ _ _ hk)),by simp[World.setCell]⟩
def RetC (w:World)(t:Tr)(c:List Sp)(e:Ending)(w':World):Prop:=
 ∃ ve vk vc,e=.returned (.agg #[ve,vk,vc])/\t.rda w' (fun b=>w.heap.size<=b/\b<w'.heap.size) ve vk/\SlA w' (fun b=>w.heap.size<=b/\b<w'.heap.size) 3 SpE vc c/\Below w.heap.size w w'
theorem qXd {w:World}{p:List ByteArray}{x:En}{A:Option Addr}{c:Nat}{okq:Nat->Prop}{B:Nat}(h:SlP w w.heap.size 1 StE (.slice A p.length c) p)(hx:x.Ok)(hok:∀ b,b<w.heap.size->okq b)(e:TypeId)(hB:w.heap.size<B) :
  SlP (w.alloc (.cells #[.slice A p.length c,.int .i64 x.dc,.int .i64 x.n,.string x.s,.int .i64 x.v] e)) B 5 (LfA (w.alloc (.cells #[.slice A p.length c,.int .i64 x.dc,.int .i64 x.n,.string x.s,.int .i64 x.v] e)) okq) (.slice (some ⟨w.heap.size,0,none⟩) 1 1) [(p,x)]:=
 SlP.oneB (x:=(p,x)) (cs:=[.slice A p.length c,.int .i64 x.dc,.int .i64 x.n,.string x.s,.int .i64 x.v]) ⟨A,c,rfl,(YV.1 h).up (fun _ hb=>Qi hb) (fun b hb=>hok b hb) (fun _ _ _ h=>h),hx⟩ rfl e rfl hB
theorem Vp (p:List ByteArray)(x:En)(c:List Sp)(vp vc:Value)(w:World)(hx:x.Ok)(hp:SlP w w.heap.size 1 StE vp p)(h:SlP w w.heap.size 3 SpE vc c)(hN:c.length<=50000)(hR:SpsOk c)(hR':SpsOk [⟨x.dc,x.n,x.n⟩]) :
  Calls Tryz.prog 60 #[vp,.agg #[.int .i64 x.dc,.int .i64 x.n,.string x.s,.int .i64 x.v],vc] w (RetC w (Zv [(p,x)]) (ctxBy c [⟨x.dc,x.n,x.n⟩] 0)):=by
 obtain⟨Ap,cp,rfl,q1,q2,q3⟩:=hp
 have hp:SlP w w.heap.size 1 StE (.slice Ap p.length cp) p:=⟨Ap,cp,rfl,q1,q2,q3⟩
 obtain⟨A,n,rfl,p1,p2,p3⟩:=h
 have h:SlP w w.heap.size 3 SpE (.slice A c.length n) c:=⟨A,n,rfl,p1,p2,p3⟩
 have HB:Hid (∀ w',Below (w.heap.size+1+1) ((w.alloc (.cells #[.int .i64 x.dc,.int .i64 x.n,.string x.s,.int .i64 x.v] 92)).alloc (.cells #[.slice none 0 0,.slice none 0 0,.slice none 0 0] 29)) w'->Below w.heap.size w w'/\(w'.cell? ⟨w.heap.size,0,none⟩=some (.int .i64 x.dc)/\w'.cell? ⟨w.heap.size,1,none⟩=some (.int .i64 x.n)/\w'.cell? ⟨w.heap.size,2,none⟩=some (.string x.s)/\w'.cell? ⟨w.heap.size,3,none⟩=some (.int .i64 x.v))/\w'.heap[w.heap.size+1]?=some (.cells #[.slice none 0 0,.slice none 0 0,.slice none 0 0] 29 (0,0))/\SlP w' w'.heap.size 1 StE (.slice Ap p.length cp) p/\SlP w' w'.heap.size 3 SpE (.slice A c.length n) c/\w.heap.size+1+1<=w'.heap.size):=fun w' hb=>by
  have hB:Below w.heap.size w w':=(((Below.refl _ w).alloc (Nat.le_refl _) _).alloc (by simp) _).trans (hb.mono (by omega))
  refine⟨hB,⟨?_,?_,?_,?_⟩,?_,hp.imp hB hB.size (fun _ _ _ h=>h),h.imp hB hB.size (fun _ _ _ h=>h),by have:=hb.size;simpa using this⟩
  ·rw[hb.cell (p:=⟨w.heap.size,0,none⟩) (by simp;omega),World.cell?_alloc_past _ _ _ (by simp),World.cell?_alloc_new];rfl
  ·rw[hb.cell (p:=⟨w.heap.size,1,none⟩) (by simp;omega),World.cell?_alloc_past _ _ _ (by simp),World.cell?_alloc_new];rfl
  ·rw[hb.cell (p:=⟨w.heap.size,2,none⟩) (by simp;omega),World.cell?_alloc_past _ _ _ (by simp),World.cell?_alloc_new];rfl
  ·rw[hb.cell (p:=⟨w.heap.size,3,none⟩) (by simp;omega),World.cell?_alloc_past _ _ _ (by simp),World.cell?_alloc_new];rfl
  ·exact (hb.block (w.heap.size+1) (by omega)).trans (Qh (by simp))
 have HLC:Hid ((ctxBy c [⟨x.dc,x.n,x.n⟩] 0).length<=Big):=by have:=Zn c [⟨x.dc,x.n,x.n⟩] 0 4;unfold Hid ctxBy Big;simp at this;omega
 have HX:=hid hx
 have hb00:Below (w.heap.size+1+1) ((w.alloc (.cells #[.int .i64 x.dc,.int .i64 x.n,.string x.s,.int .i64 x.v] 92)).alloc (.cells #[.slice none 0 0,.slice none 0 0,.slice none 0 0] 29)) (World.drew ((w.alloc (.cells #[.int .i64 x.dc,.int .i64 x.n,.string x.s,.int .i64 x.v] 92)).alloc (.cells #[.slice none 0 0,.slice none 0 0,.slice none 0 0] 29))):=(Below.refl _ _).drew
 have HLF:Hid (Calls Tryz.prog 57 #[.slice (some ⟨w.heap.size+1+1,0,none⟩) 1 1] ((World.drew ((w.alloc (.cells #[.int .i64 x.dc,.int .i64 x.n,.string x.s,.int .i64 x.v] 92)).alloc (.cells #[.slice none 0 0,.slice none 0 0,.slice none 0 0] 29))).alloc (.cells #[.slice Ap p.length cp,.int .i64 x.dc,.int .i64 x.n,.string x.s,.int .i64 x.v] 102)) (RetT ((World.drew ((w.alloc (.cells #[.int .i64 x.dc,.int .i64 x.n,.string x.s,.int .i64 x.v] 92)).alloc (.cells #[.slice none 0 0,.slice none 0 0,.slice none 0 0] 29))).alloc (.cells #[.slice Ap p.length cp,.int .i64 x.dc,.int .i64 x.n,.string x.s,.int .i64 x.v] 102)) (Zv [(p,x)]))):=
  XP [(p,x)] _ _ (by
   have:=qXd (w:=World.drew ((w.alloc (.cells #[.int .i64 x.dc,.int .i64 x.n,.string x.s,.int .i64 x.v] 92)).alloc (.cells #[.slice none 0 0,.slice none 0 0,.slice none 0 0] 29))) (okq:=fun b=>b<((World.drew ((w.alloc (.cells #[.int .i64 x.dc,.int .i64 x.n,.string x.s,.int .i64 x.v] 92)).alloc (.cells #[.slice none 0 0,.slice none 0 0,.slice none 0 0] 29))).alloc (.cells #[.slice Ap p.length cp,.int .i64 x.dc,.int .i64 x.n,.string x.s,.int .i64 x.v] 102)).heap.size) (B:=((World.drew ((w.alloc (.cells #[.int .i64 x.dc,.int .i64 x.n,.string x.s,.int .i64 x.v] 92)).alloc (.cells #[.slice none 0 0,.slice none 0 0,.slice none 0 0] 29))).alloc (.cells #[.slice Ap p.length cp,.int .i64 x.dc,.int .i64 x.n,.string x.s,.int .i64 x.v] 102)).heap.size) (HB.out _ hb00).2.2.2.1 hx (fun b hb=>by rw[World.size_alloc];exact Nat.lt_succ_of_lt hb) 102 (by rw[World.size_alloc];exact Nat.lt_succ_self _)
   simpa using this) (by simp)
 have HB1:Hid (∀ w1,Below ((World.drew ((w.alloc (.cells #[.int .i64 x.dc,.int .i64 x.n,.string x.s,.int .i64 x.v] 92)).alloc (.cells #[.slice none 0 0,.slice none 0 0,.slice none 0 0] 29))).alloc (.cells #[.slice Ap p.length cp,.int .i64 x.dc,.int .i64 x.n,.string x.s,.int .i64 x.v] 102)).heap.size ((World.drew ((w.alloc (.cells #[.int .i64 x.dc,.int .i64 x.n,.string x.s,.int .i64 x.v] 92)).alloc (.cells #[.slice none 0 0,.slice none 0 0,.slice none 0 0] 29))).alloc (.cells #[.slice Ap p.length cp,.int .i64 x.dc,.int .i64 x.n,.string x.s,.int .i64 x.v] 102)) w1->Below (w.heap.size+1+1) ((w.alloc (.cells #[.int .i64 x.dc,.int .i64 x.n,.string x.s,.int .i64 x.v] 92)).alloc (.cells #[.slice none 0 0,.slice none 0 0,.slice none 0 0] 29)) w1):=fun w1 hb=>(hb00.alloc (by simp) _).trans (hb.mono (by simp))
 clear h hp q3 p3 hx hb00
 go_enter Tryz.func60,Tryz.ntmps60
 go_upto_region 1 with (fail)
 go_region_held3 (fun w'=>w'.cell? ⟨w.heap.size,0,none⟩=some (.int .i64 x.dc)/\w'.cell? ⟨w.heap.size,1,none⟩=some (.int .i64 x.n)/\w'.cell? ⟨w.heap.size,2,none⟩=some (.string x.s)/\w'.cell? ⟨w.heap.size,3,none⟩=some (.int .i64 x.v))
  (first|go_keep|exact (HB.out _ hb3.out).2.1|exact (HB.out _ hb2.out).2.1|exact (HB.out _ hb1.out).2.1)
  (first
      |(go_at_call 57;go_loud ((refine HLF.out.mono ?_);rintro e w1 ⟨ve1,vk1,rfl,hrd,hb⟩;obtain⟨Av,nv,Aw,nw,hv1,hv2⟩:=Qp hrd;subst hv1;subst hv2;have hb1:=hid (HB1.out w1 hb);have hbz:=hid hb;clear hb))
      |(go_at_call 107;go_loud ((refine (Vo x.dot w1 ⟨HX.out.dc,HX.out.n⟩).mono ?_);rintro e w2 ⟨v2,rfl,ho2,hb⟩;have hsl:=ho2.sl (by simp[Big]);obtain⟨A2,c2,hv2⟩:=ho2.shape;subst hv2;have hbt:=hid hb;have hb2:=hid (hb1.out.trans (hb.mono (HB.out _ hb1.out).2.2.2.2.2))))
      |(go_at_call 106;go_loud ((refine (Je c [⟨x.dc,x.n,x.n⟩] _ _ w2 (HB.out _ hb2.out).2.2.2.2.1 hsl hN (by simp) hR hR').mono ?_);rintro e w3 ⟨v3,rfl,ho3,hb⟩;obtain⟨A3,c3,hv3⟩:=ho3.shape;subst hv3;have hbu:=hid hb;have hb3:=hid (hb2.out.trans (hb.mono (HB.out _ hb2.out).2.2.2.2.2));have hg3:=hid (HB.out _ hb3.out).2.2.1;have k0:w3.cell? ⟨w.heap.size+1,0,none⟩=some (.slice none 0 0):=Qa (i:=0) hg3.out;have k1:w3.cell? ⟨w.heap.size+1,1,none⟩=some (.slice none 0 0):=Qa (i:=1) hg3.out;have k2:w3.cell? ⟨w.heap.size+1,2,none⟩=some (.slice none 0 0):=Qa (i:=2) hg3.out;have z0:=Qb (i:=0) hg3.out;have z1:=Qb (i:=1) hg3.out;have z2:=Qb (i:=2) hg3.out)))
 go_wp2_with fail
 obtain⟨r0,r1,r2,hK,hS⟩:=box3 hg3.out (.slice Av (Zv [(p,x)]).es.length nv) (.slice Aw (Zv [(p,x)]).ks.length nw) (.slice A3 (ctxBy c [⟨x.dc,x.n,x.n⟩] 0).length c3)
 have hs1:=(HB.out _ hb1.out).2.2.2.2.2
 have hs2:=hbt.out.size
 have hs3:=hbu.out.size
 have hBW:=((((HB.out _ hb3.out).1.setCell (p:=⟨w.heap.size+1,0,none⟩) (by simp) (.slice Av (Zv [(p,x)]).es.length nv)).setCell (p:=⟨w.heap.size+1,1,none⟩) (by simp) (.slice Aw (Zv [(p,x)]).ks.length nw)).setCell (p:=⟨w.heap.size+1,2,none⟩) (by simp) (.slice A3 (ctxBy c [⟨x.dc,x.n,x.n⟩] 0).length c3))
 refine bodyPost_ret (v:=.agg #[.slice Av (Zv [(p,x)]).es.length nv,.slice Aw (Zv [(p,x)]).ks.length nw,.slice A3 (ctxBy c [⟨x.dc,x.n,x.n⟩] 0).length c3]) (by simp[results,Tryz.results60,go_sem,r0,r1,r2]) rfl ⟨_,_,_,rfl,?_,?_,hBW⟩
 ·refine Qw (fun b hb=>?_) (fun b hb=>⟨by have:=hb.1;simp only[World.size_alloc,World.size_drew]at this;omega,by rw[hS];have:=hb.2;omega⟩) _ _ _ hrd
  have h1:=hb.1
  simp only[World.size_alloc,World.size_drew]at h1
  have h2:=hb.2
  exact (hK b (by omega)).trans ((hbu.out.block b (by omega)).trans (hbt.out.block b h2))
 ·exact (ho3.sla HLC.out).up (fun b hb=>hK b (by have:=hb.1;omega)) (fun b hb=>⟨by have:=hb.1;omega,by rw[hS];exact hb.2.1⟩) (fun _ _ _ h=>h)
def runOk (r:Int×Int):Prop:=1<=r.1/\r.1<=r.2/\r.2<=1099511627776
theorem Qo (p:Option Int)(r:Int×Int)(rs:List (Int×Int)):runsR p (r :: rs)=true↔runOk r/\okR p r.1=true/\runsR (some r.2) rs=true:=by
 rw[Xk]
 simp only[Bool.and_eq_true,numB,decide_eq_true_eq,runOk]
 constructor
 ·rintro⟨⟨⟨⟨h1,h2⟩,h3⟩,h4⟩,h5⟩;exact⟨by omega,h4,h5⟩
 ·rintro⟨h1,h4,h5⟩;exact⟨⟨⟨⟨by omega,by omega⟩,by omega⟩,h4⟩,h5⟩
theorem qQg (p:Option Int):runsR p []=true:=by cases p<;>rfl
theorem Za (p:Option Int)(r:Int×Int):runsR p [r]=true↔runOk r/\okR p r.1=true:=by rw[Qo,qQg];simp
theorem YA:∀ (L:List (Int×Int)) (p:Option Int) (q r:Int×Int),runsR p (L++[q]++[r])=true↔runsR p (L++[q])=true/\runOk r/\q.2+1<r.1
 |[],p,q,r=>by
  rw[List.nil_append,Za,List.cons_append,Qo,List.nil_append,Za]
  simp only[okR,decide_eq_true_eq,and_assoc]
 |x :: L,p,q,r=>by
  rw[List.cons_append,List.cons_append,Qo,Qo,YA L (some x.2) q r]
  simp only[and_assoc]
theorem ZF:∀ (L:List (Int×Int)) (p:Option Int) (q:Int×Int),runsR p (L++[q])=true->runOk q
 |[],p,q,h=>((Za p q).1 h).1
 |x :: L,p,q,h=>by
  rw[List.cons_append,Qo]at h
  exact ZF L _ q h.2.2
theorem YB:∀ (L:List (Int×Int)) (p:Option Int) (q:Int×Int) (m:Int),runsR p (L++[q])=true->q.2<=m->m<=1099511627776->runsR p (L++[(q.1,m)])=true
 |[],p,q,m,h,h1,h2=>by
  rw[List.nil_append,Za]at h ⊢
  obtain⟨h,h'⟩:=h
  unfold runOk at *
  exact⟨⟨h.1,by show q.1<=m;omega,h2⟩,h'⟩
 |x :: L,p,q,m,h,h1,h2=>by
  rw[List.cons_append,Qo]at h ⊢
  exact⟨h.1,h.2.1,YB L _ q m h.2.2 h1 h2⟩
theorem Zf (a b:List (Int×Int))(n:Int):hasL (a++b) n=(hasL a n||hasL b n):=by simp[hasL]
theorem J5:∀ (l:List (Int×Int)) (p:Int),runsR (some p) l=true->∀ n,hasL l n=true->p+1<n
 |[],p,_,n,h=>by simp[hasL]at h
 |r :: l,p,hr,n,h=>by
  rw[Qo]at hr
  obtain⟨h1,h2,h3⟩:=hr
  simp only[okR,decide_eq_true_eq]at h2
  simp only[hasL,List.any_cons,Bool.or_eq_true,inR,Bool.and_eq_true,decide_eq_true_eq]at h
  unfold runOk at h1
  rcases h with h|h
  ·omega
  ·have:=J5 l r.2 h3 n (by simpa[hasL,inR] using h)
   omega
theorem ZR:∀ (a b:List (Int×Int)) (p q:Option Int),runsR p a=true->runsR q b=true->(∀ n,hasL a n=hasL b n)->a=b
 |[],[],_,_,_,_,_=>rfl
 |[],r :: b,_,q,_,hb,h=>by
  rw[Qo]at hb
  have:=h r.1
  simp[hasL,inR]at this
  have:=hb.1
  unfold runOk at this
  omega
 |r :: a,[],p,_,ha,_,h=>by
  rw[Qo]at ha
  have:=h r.1
  simp[hasL,inR]at this
  have:=ha.1
  unfold runOk at this
  omega
 |r :: a,s :: b,p,q,ha,hb,h=>by
  rw[Qo]at ha hb
  obtain⟨a1,a2,a3⟩:=ha
  obtain⟨b1,b2,b3⟩:=hb
  have ha':=J5 a r.2 a3
  have hb':=J5 b s.2 b3
  have hc:∀ (x:Int×Int) (l:List (Int×Int)) n,hasL (x :: l) n=(inR x n||hasL l n):=fun x l n=>by simp[hasL]
  have hin:∀ (x:Int×Int) n,inR x n=true↔x.1<=n/\n<=x.2:=fun x n=>by simp[inR]
  unfold runOk at a1 b1
  have key:∀ n,(inR r n=true∨hasL a n=true)↔(inR s n=true∨hasL b n=true):=fun n=>by
   have:=h n;rw[hc,hc,Bool.eq_iff_iff]at this;simpa using this
  have e1:r.1=s.1:=by
   have k1:=(key r.1).1 (.inl ((hin r _).2 ⟨by omega,by omega⟩))
   have k2:=(key s.1).2 (.inl ((hin s _).2 ⟨by omega,by omega⟩))
   rw[hin]at k1 k2
   have:=hb' r.1;have:=ha' s.1
   rcases k1 with k1|k1<;>rcases k2 with k2|k2
   ·omega
   ·have:=ha' s.1 k2;omega
   ·have:=hb' r.1 k1;omega
   ·have:=hb' r.1 k1;have:=ha' s.1 k2;omega
  have e2:r.2=s.2:=by
   have k1:=(key r.2).1 (.inl ((hin r _).2 ⟨by omega,by omega⟩))
   have k2:=(key s.2).2 (.inl ((hin s _).2 ⟨by omega,by omega⟩))
   have k3:=key (r.2+1)
   have k4:=key (s.2+1)
   rw[hin]at k1 k2
   rw[hin,hin]at k3 k4
   rcases Int.lt_trichotomy r.2 s.2 with hlt|heq|hgt
   ·have:=k3.2 (.inl ⟨by omega,by omega⟩)
    rcases this with h|h
    ·omega
    ·have:=ha' _ h;omega
   ·exact heq
   ·have:=k4.1 (.inl ⟨by omega,by omega⟩)
    rcases this with h|h
    ·omega
    ·have:=hb' _ h;omega
  have e:r=s:=Prod.ext e1 e2
  subst e
  congr 1
  refine ZR a b _ _ a3 b3 fun n=>?_
  by_cases hn:inR r n=true
  ·rw[hin]at hn
   have x1:hasL a n=false:=by
    cases hx:hasL a n with
    |false=>rfl
    |true=>have:=ha' n hx;omega
   have x2:hasL b n=false:=by
    cases hx:hasL b n with
    |false=>rfl
    |true=>have:=hb' n hx;omega
   rw[x1,x2]
  ·have:=key n
   simp only[hn]at this
   rw[Bool.eq_iff_iff]
   simpa using this
theorem ZS:∀ (l:List Int) (a:Int) (s:Int×Bool),(s.2=true->a<s.1)->(∀ y,(y∈l/\a<y∨(s.2=true/\y=s.1))->(l.foldl (nextS a) s).2=true/\(l.foldl (nextS a) s).1<=y)
 |[],a,s,hs,y,h=>by
  rcases h with h|h
  ·cases h.1
  ·exact⟨h.1,by rw[h.2];exact Int.le_refl _⟩
 |x :: l,a,s,hs,y,h=>by
  rw[List.foldl_cons]
  by_cases hc:a<x/\(s.2=false∨x<s.1)
  ·have e:nextS a s x=(x,true):=by simp[nextS,hc]
   rw[e]
   have ih:=ZS l a (x,true) (fun _=>hc.1)
   rcases h with⟨h,hy⟩|h
   ·rcases List.mem_cons.1 h with rfl|h
    ·exact ih y (.inr ⟨rfl,rfl⟩)
    ·exact ih y (.inl ⟨h,hy⟩)
   ·have:=ih x (.inr ⟨rfl,rfl⟩)
    refine⟨this.1,?_⟩
    rcases hc.2 with h2|h2
    ·rw[h.1]at h2;cases h2
    ·have h3:=this.2;rw[h.2];omega
  ·have e:nextS a s x=s:=by simp only[nextS,if_neg hc]
   rw[e]
   have ih:=ZS l a s hs
   rcases h with⟨h,hy⟩|h
   ·rcases List.mem_cons.1 h with rfl|h
    ·cases hs2:s.2 with
     |false=>exact absurd ⟨hy,.inl hs2⟩ hc
     |true=>
      have hle:s.1<=y:=by
       rcases Int.lt_or_le y s.1 with h|h
       ·exact absurd ⟨hy,.inr h⟩ hc
       ·exact h
      have:=ih s.1 (.inr ⟨hs2,rfl⟩)
      exact⟨this.1,by omega⟩
    ·exact ih y (.inl ⟨h,hy⟩)
   ·exact ih y (.inr h)
theorem Jk {l:List Int}{a y:Int}(h:y∈l)(hy:a<y):(nextL l a).2=true/\(nextL l a).1<=y:=
 ZS l a (0,false) (fun h=>by cases h) y (.inl ⟨h,hy⟩)
theorem XS {l:List Int}{a:Int}(h:(nextL l a).2=true):(nextL l a).1∈l/\a<(nextL l a).1/\∀ y∈l,a<y->(nextL l a).1<=y:=
 ⟨(QP h).1,(QP h).2,fun _ hy hlt=>(Jk hy hlt).2⟩
theorem Y1 {l:List Int}{a:Int}(h:(nextL l a).2=false):∀ y∈l,y<=a:=fun y hy=>by
 rcases Int.lt_or_le a y with hlt|hle
 ·have:=(Jk hy hlt).1;rw[h]at this;cases this
 ·exact hle
theorem Jl {out:List (Int×Int)}{x:Int}(h:runsR none out=true)(hl:∀ n,hasL out n=true->n<=x):∀ q,out.getLast?=some q->q.2<=x:=fun q hq=>by
 obtain⟨L,rfl⟩:∃ L,out=L++[q]:=by
  rcases List.eq_nil_or_concat out with rfl|⟨L,r,rfl⟩
  ·simp at hq
  ·rw[List.concat_eq_append,List.getLast?_concat]at hq;cases hq;exact⟨L,List.concat_eq_append⟩
 have hqo:=ZF L none q h
 refine hl q.2 ?_
 rw[Zf]
 unfold runOk at hqo
 simp[hasL,inR]
 right;omega
theorem Jm {out:List (Int×Int)}{x y:Int}(h:runsR none out=true)(hr:runOk (x,y))(ho:∀ q,out.getLast?=some q->q.2<x)(f:List (Int×Int))
  (hf:f=match out.getLast? with|some r=>if r.2=x-1 then out.set (out.length-1) (r.1,y) else out++[(x,y)]|none=>[(x,y)]) :
  runsR none f=true/\∀ n,hasL f n=(hasL out n||inR (x,y) n):=by
 subst hf
 rcases List.eq_nil_or_concat out with rfl|⟨L,q,rfl⟩
 ·exact⟨(Za none (x,y)).2 ⟨hr,rfl⟩,fun n=>by simp[hasL]⟩
 ·rw[List.concat_eq_append]at *
  have hq:=ho q (by simp)
  have hqo:=ZF L none q h
  unfold runOk at *
  simp only at hr
  rw[List.getLast?_concat]
  dsimp only
  split
  ·rename_i hc
   have e:(L++[q]).set ((L++[q]).length-1) (q.1,y)=L++[(q.1,y)]:=by simp
   rw[e]
   refine⟨YB L none q _ h (by omega) (by omega),fun n=>?_⟩
   rw[Zf,Zf,Bool.or_assoc]
   congr 1
   rw[Bool.eq_iff_iff]
   simp[hasL,inR]
   omega
  ·rename_i hc
   refine⟨(YA L none q (x,y)).2 ⟨h,hr,by show q.2+1<x;omega⟩,fun n=>?_⟩
   rw[Zf];simp[hasL]
theorem Xp (ps:List Int)(hps:∀ x∈ps,1<=x/\x<=1099511627776):∀ (n:Nat) (a:Int) (out:List (Int×Int)),cnt ps (a+1)<n->runsR none out=true->(∀ m,hasL out m=true↔m∈ps/\m<=a) ->
  runsR none (ofGo ps n (nextL ps a) out)=true/\∀ m,hasL (ofGo ps n (nextL ps a) out) m=true↔m∈ps
 |0,a,out,hn,_,_=>by omega
 |n+1,a,out,hn,hr,ho=>by
  rw[ofGo]
  split
  ·rename_i hk
   obtain⟨h1,h2,h3⟩:=XS hk
   generalize (nextL ps a).1=x at *
   have hb:=hps x h1
   have hl:=Jl hr (x:=a) (fun m hm=>((ho m).1 hm).2)
   obtain⟨k1,k2⟩:=Jm (x:=x) (y:=x) hr ⟨by exact hb.1,by show x<=x;omega,by exact hb.2⟩ (fun q hq=>by have:=hl q hq;omega) (ofOut out x) rfl
   refine Xp ps hps n x (ofOut out x) ?_ k1 fun m=>?_
   ·have:=Kw (y:=x+1) h1 (by omega)
    have h4:cnt ps x<=cnt ps (a+1):=by
     unfold cnt
     rw[←List.countP_eq_length_filter,←List.countP_eq_length_filter]
     exact List.countP_mono_left fun z _ hz=>by simp at hz ⊢;omega
    omega
   ·rw[k2,Bool.or_eq_true,ho]
    simp only[inR,Bool.and_eq_true,decide_eq_true_eq]
    constructor
    ·rintro (h|h)
     ·exact⟨h.1,by omega⟩
     ·obtain rfl:m=x:=by omega
      exact⟨h1,by omega⟩
    ·rintro⟨hm,hle⟩
     by_cases hma:m<=a
     ·exact .inl ⟨hm,hma⟩
     ·have:=h3 m hm (by omega)
      exact .inr ⟨by omega,by omega⟩
  ·rename_i hk
   have hk':(nextL ps a).2=false:=by simpa using hk
   exact⟨hr,fun m=>(ho m).trans ⟨fun h=>h.1,fun h=>⟨h,Y1 hk' m h⟩⟩⟩
theorem Yc {ps:List Int}(hps:∀ x∈ps,1<=x/\x<=1099511627776):runsR none (ofL ps)=true/\∀ m,hasL (ofL ps) m=true↔m∈ps:=by
 unfold ofL
 refine Xp ps hps (ps.length+1) 0 [] (by have:=Kx ps (0+1);omega) rfl fun m=>?_
 constructor
 ·intro h;simp[hasL]at h
 ·rintro⟨h,h'⟩;have:=hps m h;omega
theorem KJ {r:Int×Int}{ps:List Int}{x y n:Int}(h1:r.1∈ps)(h2:r.2+1∈ps)(hn:∀ z∈ps,x<z->y<=z)(hx:x<=n)(hy:n<y):inR r n=inR r x:=by
 rw[Bool.eq_iff_iff]
 simp only[inR,Bool.and_eq_true,decide_eq_true_eq]
 have a1:=hn _ h1
 have a2:=hn _ h2
 omega
theorem Jn {l:List (Int×Int)}{ps:List Int}{x y n:Int}(hl:∀ r∈l,r.1∈ps/\r.2+1∈ps)(hn:∀ z∈ps,x<z->y<=z)(hx:x<=n)(hy:n<y):hasL l n=hasL l x:=by
 unfold hasL
 rw[Bool.eq_iff_iff,List.any_eq_true,List.any_eq_true]
 constructor
 ·rintro⟨r,hr,h⟩;exact⟨r,hr,by rw[←KJ (hl r hr).1 (hl r hr).2 hn hx hy];exact h⟩
 ·rintro⟨r,hr,h⟩;exact⟨r,hr,by rw[KJ (hl r hr).1 (hl r hr).2 hn hx hy];exact h⟩
theorem KL {l:List (Int×Int)}{ps:List Int}{x n:Int}(hl:∀ r∈l,r.1∈ps/\r.2+1∈ps)(hn:∀ z∈ps,z<=x)(hx:x<=n):hasL l n=false:=by
 unfold hasL
 rw[List.any_eq_false]
 intro r hr
 have:=hn _ (hl r hr).2
 simp[inR];omega
theorem Xq {l:List (Int×Int)}{ps:List Int}{x n:Int}(hl:∀ r∈l,r.1∈ps/\r.2+1∈ps)(hn:∀ z∈ps,x<z)(hx:n<=x):hasL l n=false:=by
 unfold hasL
 rw[List.any_eq_false]
 intro r hr
 have:=hn _ (hl r hr).1
 simp[inR];omega
theorem YD (a b:List (Int×Int))(how:Int)(ps:List Int)(ha:∀ r∈a,r.1∈ps/\r.2+1∈ps)(hb:∀ r∈b,r.1∈ps/\r.2+1∈ps)(hps:∀ x∈ps,1<=x/\x<=1099511627777) :
  ∀ (n:Nat) (x:Int) (out:List (Int×Int)),cnt ps x<n->x∈ps->runsR none out=true->(∀ m,hasL out m=true↔inn how (hasL a m) (hasL b m)=true/\m<x) ->
  runsR none (byGo a b how ps n (x,true) out)=true/\∀ m,hasL (byGo a b how ps n (x,true) out) m=inn how (hasL a m) (hasL b m)
 |0,x,out,hn,_,_,_=>by omega
 |n+1,x,out,hn,hx,hr,ho=>by
  rw[byGo,if_pos rfl]
  have hxb:=hps x hx
  have hl:=Jl hr (x:=x-1) (fun m hm=>by have:=((ho m).1 hm).2;omega)
  cases hk:(nextL ps x).2 with
  |true=>
   obtain⟨h1,h2,h3⟩:=XS hk
   have e:nextL ps x=((nextL ps x).1,true):=by rw[←hk]
   rw[e]
   generalize (nextL ps x).1=y at *
   dsimp only
   have hyb:=hps y h1
   have hc:=Kw hx h2
   have sa:=fun m (h1:x<=m) (h2:m<y)=>Jn ha h3 h1 h2
   have sb:=fun m (h1:x<=m) (h2:m<y)=>Jn hb h3 h1 h2
   split
   ·rename_i hi
    obtain⟨k1,k2⟩:=Jm (x:=x) (y:=y-1) hr ⟨by exact hxb.1,by show x<=y-1;omega,by show y-1<=_;omega⟩ (fun q hq=>by have:=hl q hq;omega) (byOut out x y) rfl
    refine YD a b how ps ha hb hps n y (byOut out x y) (by omega) h1 k1 fun m=>?_
    rw[k2,Bool.or_eq_true,ho]
    simp only[inR,Bool.and_eq_true,decide_eq_true_eq]
    constructor
    ·rintro (h|h)
     ·exact⟨h.1,by omega⟩
     ·exact⟨by rw[sa m (by omega) (by omega),sb m (by omega) (by omega)];exact hi,by omega⟩
    ·rintro⟨hm,hlt⟩
     by_cases h:m<x
     ·exact .inl ⟨hm,h⟩
     ·exact .inr ⟨by omega,by omega⟩
   ·rename_i hi
    refine YD a b how ps ha hb hps n y out (by omega) h1 hr fun m=>?_
    rw[ho]
    constructor
    ·rintro⟨h,h'⟩;exact⟨h,by omega⟩
    ·rintro⟨h,h'⟩
     refine⟨h,?_⟩
     rcases Int.lt_or_le m x with hlt|hle
     ·exact hlt
     ·rw[sa m hle h',sb m hle h']at h;exact absurd h hi
  |false=>
   have h3:=Y1 hk
   have e:nextL ps x=((nextL ps x).1,false):=by rw[←hk]
   have ea:=fun m (h:x<=m)=>KL ha h3 h
   have eb:=fun m (h:x<=m)=>KL hb h3 h
   have hi:inn how (hasL a x) (hasL b x)=false:=by rw[ea x (Int.le_refl _),eb x (Int.le_refl _)];simp[inn]
   dsimp only
   rw[hi,e,Yy,if_neg (by decide)]
   refine⟨hr,fun m=>?_⟩
   rw[Bool.eq_iff_iff,ho]
   constructor
   ·exact fun h=>h.1
   ·intro h
    refine⟨h,?_⟩
    rcases Int.lt_or_le m x with hlt|hle
    ·exact hlt
    ·rw[ea m hle,eb m hle]at h;simp[inn]at h
theorem Yd {l:List (Int×Int)}{r:Int×Int}(h:r∈l):r.1∈endsL l/\r.2+1∈endsL l:=by
 unfold endsL
 exact⟨List.mem_flatMap.2 ⟨r,h,by simp⟩,List.mem_flatMap.2 ⟨r,h,by simp⟩⟩
theorem Zz {a b:List (Int×Int)}(how:Int)(ha:∀ r∈a,runOk r)(hb:∀ r∈b,runOk r):runsR none (byL a b how)=true/\∀ m,hasL (byL a b how) m=inn how (hasL a m) (hasL b m):=by
 have hps:∀ x∈endsL a++endsL b,1<=x/\x<=1099511627777:=fun x hx=>by
  have:∀ (l:List (Int×Int)),(∀ r∈l,runOk r)->x∈endsL l->1<=x/\x<=1099511627777:=fun l hl hx=>by
   obtain⟨r,hr,hx⟩:=List.mem_flatMap.1 hx
   have:=hl r hr
   unfold runOk at this
   simp at hx
   omega
  rcases List.mem_append.1 hx with h|h
  ·exact this a ha h
  ·exact this b hb h
 have ea:∀ r∈a,r.1∈endsL a++endsL b/\r.2+1∈endsL a++endsL b:=fun r hr=>⟨List.mem_append_left _ (Yd hr).1,List.mem_append_left _ (Yd hr).2⟩
 have eb:∀ r∈b,r.1∈endsL a++endsL b/\r.2+1∈endsL a++endsL b:=fun r hr=>⟨List.mem_append_right _ (Yd hr).1,List.mem_append_right _ (Yd hr).2⟩
 unfold byL
 generalize endsL a++endsL b=ps at *
 cases hk:(nextL ps 0).2 with
 |true=>
  obtain⟨h1,h2,h3⟩:=XS hk
  have e:nextL ps 0=((nextL ps 0).1,true):=by rw[←hk]
  rw[e]
  generalize (nextL ps 0).1=x at *
  refine YD a b how ps ea eb hps (ps.length+1) x [] (by have:=Kx ps x;omega) h1 rfl fun m=>?_
  constructor
  ·intro h;simp[hasL]at h
  ·rintro⟨h,hlt⟩
   exfalso
   have hq:∀ z∈ps,m<z:=fun z hz=>by have:=h3 z hz (by have:=hps z hz;omega);omega
   rw[Xq ea hq (Int.le_refl _),Xq eb hq (Int.le_refl _)]at h
   simp[inn]at h
 |false=>
  have h3:=Y1 hk
  have e:nextL ps 0=((nextL ps 0).1,false):=by rw[←hk]
  rw[e,Yy]
  have hn:ps=[]:=by
   cases ps with
   |nil=>rfl
   |cons z zs=>have:=h3 z (by simp);have:=hps z (by simp);omega
  subst hn
  have:∀ (l:List (Int×Int)),(∀ r∈l,r.1∈([]:List Int)/\r.2+1∈([]:List Int))->l=[]:=fun l hl=>by
   cases l with
   |nil=>rfl
   |cons z zs=>have:=(hl z (by simp)).1;simp at this
  rw[this a ea,this b eb]
  exact⟨rfl,fun m=>by simp[hasL,inn]⟩
theorem Jt:∀ (es:List En) (p:Option Dt),entsB p es=true->∀ e∈es,e.right=true
 |[],_,_,_,h=>by cases h
 |e :: es,p,h,x,hx=>by
  rw[Q4]at h
  simp only[Bool.and_eq_true]at h
  rcases List.mem_cons.1 hx with rfl|hx
  ·exact h.1.1
  ·exact Jt es _ h.2 x hx
theorem Xt:∀ (ks:List Kd) (p:Option ByteArray) (deep:Int),Tr.rightL p ks deep=true->∀ k t,(k,t)∈ks->t.right (deep-1)=true
 |[],_,_,_,_,_,h=>by cases h
 |(k',t') :: ks,p,deep,h,k,t,hk=>by
  rw[QL]at h
  simp only[Bool.and_eq_true]at h
  rcases List.mem_cons.1 hk with e|hk
  ·cases e;exact h.1.2
  ·exact Xt ks _ deep h.2 k t hk
theorem Ju:∀ (ks:List Kd) (x:Dt),x∈Tr.dotsL ks->∃ k t,(k,t)∈ks/\x∈t.dots
 |[],x,h=>by rw[Tr.dotsL]at h;cases h
 |(k,t) :: ks,x,h=>by
  rw[Tr.dotsL]at h
  rcases List.mem_append.1 h with h|h
  ·exact⟨k,t,by simp,h⟩
  ·obtain⟨k',t',h1,h2⟩:=Ju ks x h
   exact⟨k',t',by simp[h1],h2⟩
theorem ZH (t:Tr):∀ (deep:Int),t.right deep=true->∀ x∈t.dots,x.right=true:=by
 induction t using Tr.ind with
 |h es ks ih=>
  intro deep h x hx
  rw[Tr.right]at h
  simp only[Bool.and_eq_true]at h
  rw[Tr.dots]at hx
  rcases List.mem_append.1 hx with hx|hx
  ·obtain⟨e,he,rfl⟩:=List.mem_map.1 hx
   have:=Jt es none h.1.2 e he
   simp[En.right]at this
   exact this.1
  ·obtain⟨k,t,hk,hx⟩:=Ju ks x hx
   exact ih k t hk (deep-1) (Xt ks none deep h.2 k t hk) x hx
theorem Xu {t:Tr}{deep:Int}(h:t.right deep=true):∀ d∈t.dots,0<=d.n/\d.n<=1099511627778:=fun d hd=>by
 have:=ZH t deep h d hd
 simp[Dt.right]at this
 omega
def chkT (t:Tr)(d:Dt):Bool:=t.right 5&&d.right&&!hasC (ctxOf t.dots) d
theorem Jv (t:Tr)(d:Dt)(ve vk:Value)(w:World)(h:t.rd w w.heap.size ve vk)(hN:t.sz<=90000) :
  Calls Tryz.prog 26 #[.agg #[ve,vk],.agg #[.int .i64 d.dc,.int .i64 d.n]] w fun e w'=>e=.returned (.bool (chkT t d))/\Below w.heap.size w w':=by
 obtain⟨A3,n3,A4,n4,rfl,rfl⟩:=Qk h
 have HB:Hid (∀ w',Below (w.heap.size+1+1) ((w.alloc (.cells #[.slice A3 t.es.length n3,.slice A4 t.ks.length n4] 25)).alloc (.cells #[.int .i64 d.dc,.int .i64 d.n] 52)) w'->Below w.heap.size w w'/\(w'.cell? ⟨w.heap.size,0,none⟩=some (.slice A3 t.es.length n3)/\w'.cell? ⟨w.heap.size,1,none⟩=some (.slice A4 t.ks.length n4)/\w'.cell? ⟨w.heap.size+1,0,none⟩=some (.int .i64 d.dc)/\w'.cell? ⟨w.heap.size+1,1,none⟩=some (.int .i64 d.n))/\t.rd w' w'.heap.size (.slice A3 t.es.length n3) (.slice A4 t.ks.length n4)):=fun w' hb=>by
  have hB:Below w.heap.size w w':=(((Below.refl _ w).alloc (Nat.le_refl _) _).alloc (by simp) _).trans (hb.mono (by omega))
  refine⟨hB,⟨?_,?_,?_,?_⟩,Qg hB hB.size _ _ _ h⟩
  ·rw[hb.cell (p:=⟨w.heap.size,0,none⟩) (by simp;omega),World.cell?_alloc_past _ _ _ (by simp),World.cell?_alloc_new];rfl
  ·rw[hb.cell (p:=⟨w.heap.size,1,none⟩) (by simp;omega),World.cell?_alloc_past _ _ _ (by simp),World.cell?_alloc_new];rfl
  ·rw[hb.cell (p:=⟨w.heap.size+1,0,none⟩) (by simp),World.cell?_alloc_at _ _ _ _ (by simp)];rfl
  ·rw[hb.cell (p:=⟨w.heap.size+1,1,none⟩) (by simp),World.cell?_alloc_at _ _ _ _ (by simp)];rfl
 have hw0:=HB.out _ (Below.refl _ _)
 have f0:=Qf (B:=w.heap.size+1+1) hw0.2.1.1 (by omega)
 have f1:=Qf (B:=w.heap.size+1+1) hw0.2.1.2.1 (by omega)
 have f2:=Qf (B:=w.heap.size+1+1) hw0.2.1.2.2.1 (by omega)
 have f3:=Qf (B:=w.heap.size+1+1) hw0.2.1.2.2.2 (by omega)
 clear hw0
 go_enter Tryz.func26,Tryz.ntmps26
 rcases hr:t.right 5
 ·go_upto_region 1 with (fail)
  refine Qc (w.heap.size+1+1) (by kernel_rfl) (by kernel_rfl) ?_
  repeat (go_big_quiet_step ((go_at_call 23;exact Calls.far_all (by simp) (fun w' hb'=>hr▸Zg t w' _ _ (HB.out w' hb').2.2))))
  refine wpQuiet_nil ?_
  intro wq hbq
  go_wp2_with fail
  go_ret
  exact⟨Qd (by rw[chkT,hr];rfl),(HB.out _ hbq).1⟩
 rcases hd:d.right
 ·go_upto_region 1 with (fail)
  refine Qc (w.heap.size+1+1) (by kernel_rfl) (by kernel_rfl) ?_
  repeat (go_big_quiet_step (first|(go_at_call 23;exact Calls.far_all (by simp) (fun w' hb'=>hr▸Zg t w' _ _ (HB.out w' hb').2.2))|(go_at_call 64;exact Calls.far_of (by simp) (hd▸QY d _))))
  refine wpQuiet_nil ?_
  intro wq hbq
  go_wp2_with fail
  go_ret
  exact⟨Qd (by rw[chkT,hr,hd];rfl),(HB.out _ hbq).1⟩
 ·have HR:=hid (Xu hr)
  have HLC:Hid ((ctxOf t.dots).length<=999999):=by have:=QK t.dots 4;have:=Zr t;unfold Hid ctxOf;omega
  go_upto_region 1 with (fail)
  go_region_held3 (fun w'=>w'.cell? ⟨w.heap.size,0,none⟩=some (.slice A3 t.es.length n3)/\w'.cell? ⟨w.heap.size,1,none⟩=some (.slice A4 t.ks.length n4)/\w'.cell? ⟨w.heap.size+1,0,none⟩=some (.int .i64 d.dc)/\w'.cell? ⟨w.heap.size+1,1,none⟩=some (.int .i64 d.n))
   (first|go_keep|exact (HB.out _ hb4).2.1|exact (HB.out _ hb3).2.1|exact (HB.out _ hb2).2.1|exact (HB.out _ hb1).2.1)
   (first
       |(go_at_call 23;go_loud ((refine (Zg t _ _ _ (HB.out _ ((Below.refl _ _).drew)).2.2).mono ?_);rw[hr];rintro e w1 ⟨rfl,hb⟩;have hb1:=((Below.refl (w.heap.size+1+1) ((w.alloc (.cells #[.slice A3 t.es.length n3,.slice A4 t.ks.length n4] 25)).alloc (.cells #[.int .i64 d.dc,.int .i64 d.n] 52))).drew).trans (hb.mono (by simp))))
       |(go_at_call 64;go_loud ((refine (QY d w1).mono ?_);rw[hd];rintro e w2 ⟨rfl,hb⟩;have hb2:=hb1.trans (hb.mono (by have:=hb1.size;simpa using this))))
       |(go_at_call 63;go_loud ((refine (YX t w2 _ _ (HB.out _ hb2).2.2 hN HR.out).mono ?_);rintro e w3 ⟨vd,rfl,ho,hb⟩;have hb3:=hb2.trans (hb.mono (by have:=hb2.size;simpa using this));have hsl:=ho.sl (by have:=HLC.out;unfold Big;omega)))
       |(go_at_call 65;go_loud ((refine (Vr (ctxOf t.dots) d _ w3 hsl HLC.out).mono ?_);rintro e w4 ⟨rfl,hb⟩;have hb4:=hb3.trans (hb.mono (by have:=hb3.size;simpa using this)))))
  go_wp2_with fail
  go_ret
  exact⟨Qd (by rw[chkT,hr,hd];rfl),(HB.out _ hb4).1⟩
def RetK (w:World)(ve vk:Value)(c:List Sp)(e:Ending)(w':World):Prop:=
 ∃ vc,e=.returned (.agg #[ve,vk,vc])/\SlA w' (fun b=>w.heap.size<=b/\b<w'.heap.size) 3 SpE vc c/\Below w.heap.size w w'
theorem Qm (t:Tr)(ve vk:Value)(w:World)(h:t.rd w w.heap.size ve vk)(hN:t.sz<=90000)(hR:∀ d∈t.dots,0<=d.n/\d.n<=1099511627778) :
  Calls Tryz.prog 24 #[.agg #[ve,vk]] w (RetK w ve vk (ctxOf t.dots)):=by
 have HC:Hid (∀ w',Below w.heap.size w w'->t.rd w' w'.heap.size ve vk):=fun w' hb=>Qg hb hb.size _ _ _ h
 have hcl:(ctxOf t.dots).length<=4*(t.dots.length+1):=QK t.dots 4
 have hdl:=Zr t
 have HUL:Hid ((ctxOf t.dots).length<=Big):=by unfold Hid Big;omega
 have HR:=hid hR
 obtain⟨A3,n3,A4,n4,rfl,rfl⟩:=Qk h
 clear h hR hcl hdl
 have HX:Hid (∀ W,Below (w.heap.size+2) ((w.alloc (.cells #[.slice A3 t.es.length n3,.slice A4 t.ks.length n4] 25)).alloc (.cells #[.slice none 0 0,.slice none 0 0,.slice none 0 0] 29)) W->Below w.heap.size w W/\W.heap[w.heap.size+1]?=some (.cells #[.slice none 0 0,.slice none 0 0,.slice none 0 0] 29 (0,0))/\w.heap.size+2<=W.heap.size/\(W.cell? ⟨w.heap.size,0,none⟩=some (.slice A3 t.es.length n3)/\W.cell? ⟨w.heap.size,1,none⟩=some (.slice A4 t.ks.length n4))):=fun W hW=>by
  have g0:W.heap[w.heap.size]?=some (.cells #[.slice A3 t.es.length n3,.slice A4 t.ks.length n4] 25 (0,0)):=(hW.block _ (by omega)).trans ((Qi (by simp)).trans (Qh rfl))
  have g1:W.heap[w.heap.size+1]?=some (.cells #[.slice none 0 0,.slice none 0 0,.slice none 0 0] 29 (0,0)):=(hW.block _ (by omega)).trans (Qh (by simp))
  exact⟨(((Below.refl _ w).alloc (Nat.le_refl _) _).alloc (by simp) _).trans (hW.mono (by omega)),g1,by have:=hW.size;simpa using this,Qa (i:=0) g0,Qa (i:=1) g0⟩
 have hneB:w.heap.size≠w.heap.size+1:=by omega
 go_enter Tryz.func24,Tryz.ntmps24
 go_upto_region 1 with (fail)
 go_region_held3 (fun w'=>w'.cell? ⟨w.heap.size,0,none⟩=some (.slice A3 t.es.length n3)/\w'.cell? ⟨w.heap.size,1,none⟩=some (.slice A4 t.ks.length n4))
  (first|go_keep|exact (HX.out _ hbk1.out).2.2.2)
  ((go_at_call 63;go_loud ((refine (YX t _ _ _ (HC.out _ (HX.out _ (by go_grown)).1) hN HR.out).mono ?_);rintro e w1 ⟨v1,rfl,ho1,hb1⟩;obtain⟨A7,c7,hv7⟩:=ho1.shape;subst hv7;have HO:=hid ho1;have hbk1:Hid (Below (w.heap.size+2) ((w.alloc (.cells #[.slice A3 t.es.length n3,.slice A4 t.ks.length n4] 25)).alloc (.cells #[.slice none 0 0,.slice none 0 0,.slice none 0 0] 29)) w1):=(Below.trans (by go_grown) (hb1.mono (by simp)));have HG1:=hid (HX.out _ hbk1.out).2.1;have k0:w1.cell? ⟨w.heap.size+1,0,none⟩=some (.slice none 0 0):=Qa (i:=0) HG1.out;have k1:w1.cell? ⟨w.heap.size+1,1,none⟩=some (.slice none 0 0):=Qa (i:=1) HG1.out;have k2:w1.cell? ⟨w.heap.size+1,2,none⟩=some (.slice none 0 0):=Qa (i:=2) HG1.out;have z0:=Qb (i:=0) HG1.out;have z1:=Qb (i:=1) HG1.out;have z2:=Qb (i:=2) HG1.out;clear ho1 hb1)))
 all_goals (
  go_wp2_with fail
  have hs1:w.heap.size+2<=w1.heap.size:=(HX.out _ hbk1.out).2.2.1
  obtain⟨r0,r1,r2,hK,hS⟩:=box3 HG1.out (.slice A3 t.es.length n3) (.slice A4 t.ks.length n4) (.slice A7 (ctxOf t.dots).length c7)
  have hBW:Below w.heap.size w (((w1.setCell ⟨w.heap.size+1,0,none⟩ (.slice A3 t.es.length n3)).setCell ⟨w.heap.size+1,1,none⟩ (.slice A4 t.ks.length n4)).setCell ⟨w.heap.size+1,2,none⟩ (.slice A7 (ctxOf t.dots).length c7)):=(((HX.out _ hbk1.out).1.setCell (by simp) _).setCell (by simp) _).setCell (by simp) _
  clear k0 k1 k2 z0 z1 z2
  generalize (((w1.setCell ⟨w.heap.size+1,0,none⟩ (.slice A3 t.es.length n3)).setCell ⟨w.heap.size+1,1,none⟩ (.slice A4 t.ks.length n4)).setCell ⟨w.heap.size+1,2,none⟩ (.slice A7 (ctxOf t.dots).length c7))=W at *
  refine bodyPost_ret (v:=.agg #[.slice A3 t.es.length n3,.slice A4 t.ks.length n4,.slice A7 (ctxOf t.dots).length c7]) (by simp[results,Tryz.results24,go_sem,r0,r1,r2]) rfl ⟨_,rfl,?_,hBW⟩
  exact (HO.out.sla HUL.out).up (fun b hb=>hK b (by have:=hb.1;simp only[World.size_alloc,World.size_drew]at this;omega)) (fun b hb=>⟨by have:=hb.1;simp only[World.size_alloc,World.size_drew]at this;omega,by have:=hb.2.1;omega⟩) (fun _ _ _ h=>h))
def RetG (w:World)(e:Ending)(w':World):Prop:=∃ v,e=.returned v/\OwnP w' w.heap.size 181 2 RuE v []/\Below w.heap.size w w'
theorem qXc (n:Nat)(w:World)(hn:n<=900000):Calls Tryz.prog 233 #[.slice none 0 0,.int .i64 n] w (RetG w):=by
 rcases Nat.eq_zero_or_pos n with rfl|hp
 ·go_enter Tryz.func233,Tryz.ntmps233
  go_wp2_with fail
  go_ret
  exact⟨_,rfl,OwnP.nil,Below.refl _ _⟩
 ·have ht:=Tryz.underlying148
  obtain⟨i,hi,hz,hs,hby⟩:=info_parts (show (Tryz.prog.info? 181).map (fun i=>(i.zero,i.size,i.bytes))=some (some (.agg #[.int .i64 0,.int .i64 0]),2,16) by kernel_rfl)
  have hold:(Builtin.firstCells i.size 0 (.slice none 0 0)).run Tryz.prog w.drew=.ok (#[]:Array Value) w.drew:=run_firstCells_none w.drew i.size 0 0 0
  have hrz:∀ ty,(Builtin.append_ #[148,3] ty #[.slice none 0 0,.int .i64 (n:Int)]).run Tryz.prog w=.ok (.slice (some ⟨w.heap.size,0,none⟩) n (grownCap w n 0 181)) (w.drew.alloc (.cells (#[]++Builtin.zeroCells #[.int .i64 0,.int .i64 0] n++Builtin.zeroCells #[.int .i64 0,.int .i64 0] (grownCap w n 0 181-n)) 181)):=fun ty=>by
   have h:=Lib.run_append_grow_zeros w 148 3 ty 181 i (.agg #[.int .i64 0,.int .i64 0]) .i64 .i64 ht Tryz.underlying3 hi hz none 0 0 [] hold n hp (by omega) (by omega) (by omega) (by rw[hby];omega) (by rw[hby,Nat.zero_add];exact growslice_fits hp (by omega))
   simpa[Value.cells] using h
  have hge:=grownCap_ge w n 0 181
  have hle:=grownCap_le_maxLen w n 0 181 (by unfold maxLen;omega)
  generalize grownCap w n 0 181=G at *
  have hG63:G<=9223372036854775807:=by unfold maxLen at hle;omega
  have HLE:=hid hle
  clear hle hold ht hi hz hs hby
  go_enter Tryz.func233,Tryz.ntmps233
  go_wp2_with (at_builtin;refine Lib.wpList_append_run _ rfl _ _ _ _ rfl _ _ rfl rfl _ _ (hrz _) ?_)
  all_goals
   go_ret
   refine⟨_,rfl,⟨[],⟨rfl,fun j x h=>by simp at h⟩,by simp,.inr ⟨w.heap.size,G,_,rfl,Nat.le_refl _,heap_alloc_new _ _,Nat.zero_le _,HLE.out,?_,by simp⟩⟩,((Below.refl w.heap.size w).drew).alloc (Nat.le_refl _) _⟩
   simp[size_zeroCells]
   omega
def catK {α:Type}(a b:List α):Nat->List α|0=>[]|1=>a|_+2=>a++b
theorem Vn (a b:List (Int×Int))(va vb:Value)(B:Nat)(w:World)(h0:w.cell? ⟨B,0,none⟩=some va)(h1:w.cell? ⟨B,1,none⟩=some vb)(hB:B<w.heap.size)(ha:SlP w w.heap.size 2 RuE va a)(hb:SlP w w.heap.size 2 RuE vb b)(hN:a.length<=300000)(hN':b.length<=300000) :
  Calls Tryz.prog 201 #[.slice (some ⟨B,0,none⟩) 2 2] w (RetO w 181 2 (fun _=>RuE) (a++b)):=by
 have HA:=hid ha
 have HB:=hid hb
 obtain⟨A1,c1,rfl,_⟩:=ha
 obtain⟨A2,c2,rfl,_⟩:=hb
 have hla:((catK a b 2).length:Int)=a.length+b.length:=by simp[catK]
 go_enter Tryz.func201,Tryz.ntmps201
 go_wp2_with fail
 go_loop [3,11] (fun s i=>∃ k:Nat,k<=2/\i=.int .i64 k/\s=.int .i64 ((catK a b k).length:Nat)) (fun _ i=>2-(intOf i).toNat)
 case atStart=>exact⟨0,by omega,rfl,rfl⟩
 case round=>
  obtain⟨k,hk,rfl,rfl⟩:=hrel
  match k,hk with
  |0,_=>
   clear hla
   simp only[catK,List.length_nil]
   go_wp2_with fail
   go_round
   case rel=>exact⟨1,by omega,rfl,by simp⟩
   case measure=>simp[intOf]
  |1,_=>
   clear hla
   simp only[catK]
   go_wp2_with fail
   go_round
   case rel=>exact⟨2,by omega,rfl,by simp⟩
   case measure=>simp[intOf]
  |2,_=>
   obtain⟨m,hm⟩:∃ m:Nat,m=(catK a b 2).length:=⟨_,rfl⟩
   rw[←hm]at hla ⊢
   have hm2:m<=600000:=by omega
   clear hla hm
   go_wp2_with fail
   refine (qXc m w (by omega)).mono ?_
   rintro e w1 ⟨v1,rfl,ho1,hb1⟩
   have hs1:=hb1.size
   go_wp2_with fail
   go_loopw [6,27] (fun v i wr=>∃ k:Nat,k<=2/\i=.int .i64 k/\OwnP wr w.heap.size 181 2 RuE v (catK a b k)/\Below w.heap.size w wr) (fun _ i _=>2-(intOf i).toNat)
   case atStart=>exact⟨0,by omega,rfl,ho1,hb1⟩
   case round=>
    obtain⟨k,hk,rfl,hown,hbr⟩:=hrel
    have hsz:=hbr.size
    have e0:wr.cell? ⟨B,0,none⟩=some (.slice A1 a.length c1):=(hbr.cell (p:=⟨B,0,none⟩) hB).trans h0
    have e1:wr.cell? ⟨B,1,none⟩=some (.slice A2 b.length c2):=(hbr.cell (p:=⟨B,1,none⟩) hB).trans h1
    have HSA:=hid (HA.out.imp hbr hsz fun _ _ _ h=>h)
    have HSB:=hid (HB.out.imp hbr hsz fun _ _ _ h=>h)
    match k,hk with
    |0,_=>
     have HL:Hid ((catK a b 0).length+a.length<=Few):=by unfold Hid Few;simp[catK];omega
     go_wp2_with (at_builtin;refine Qj rfl (.tmp 31) (.tmp 32) _ rfl eiRun (by decide) (by decide) (fun _ _ h=>h.one) rfl hown rfl HSA.out HL.out hsz ?_;intro v2 w2 hown2 hb2 _)
     go_roundw
     case rel=>exact⟨1,by omega,rfl,by simpa[catK] using hown2,hbr.trans hb2⟩
     case measure=>simp[intOf]
    |1,_=>
     have HL:Hid ((catK a b 1).length+b.length<=Few):=by unfold Hid Few;simp[catK];omega
     go_wp2_with (at_builtin;refine Qj rfl (.tmp 31) (.tmp 32) _ rfl eiRun (by decide) (by decide) (fun _ _ h=>h.one) rfl hown rfl HSB.out HL.out hsz ?_;intro v2 w2 hown2 hb2 _)
     go_roundw
     case rel=>exact⟨2,by omega,rfl,by simpa[catK] using hown2,hbr.trans hb2⟩
     case measure=>simp[intOf]
    |2,_=>
     go_wp2_with fail
     go_ret
     exact⟨_,rfl,hown,hbr⟩
theorem OwnP.zero {α:Type}{w:World}{base n:Nat}{e:TypeId}{sz:Nat}{E:α->List Value->Prop}(h:w.heap[n]?=some (.cells #[] e (0,0)))(hb:base<=n):OwnP w base e sz E (.slice (some ⟨n,0,none⟩) 0 0) ([]:List α):=
 ⟨[],⟨rfl,fun j y hy=>by simp at hy⟩,by simp,.inr ⟨n,0,#[],rfl,hb,h,Nat.le_refl _,by simp[maxLen],by simp,by simp⟩⟩
theorem KdE.one {w:World}{B:Nat}{x:Kd}{cs:List Value}(h:KdE w B x cs):∀ u∈cs,u.oneCell'=true:=by
 obtain⟨ve,vk,rfl,_,h⟩:=h
 obtain⟨A,n,A',m,rfl,rfl⟩:=Qk h
 simp[Value.oneCell']
def RetGK {w0:World}(B0:Nat)(w:World)(e:Ending)(w':World):Prop:=∃ v,e=.returned v/\OwnP w' w.heap.size 106 3 (KdE w0 B0) v []/\Below w.heap.size w w'
theorem qQb (w0:World)(B0 n:Nat)(w:World)(hn:n<=900000):Calls Tryz.prog 197 #[.slice none 0 0,.int .i64 n] w (RetGK (w0:=w0) B0 w):=by
 rcases Nat.eq_zero_or_pos n with rfl|hp
 ·go_enter Tryz.func197,Tryz.ntmps197
  go_wp2_with fail
  go_ret
  exact⟨_,rfl,OwnP.nil,Below.refl _ _⟩
 ·have ht:=Tryz.underlying23
  obtain⟨i,hi,hz,hs,hby⟩:=info_parts (show (Tryz.prog.info? 106).map (fun i=>(i.zero,i.size,i.bytes))=some (some (.agg #[.string ByteArray.empty,.slice none 0 0,.slice none 0 0]),3,64) by kernel_rfl)
  have hold:(Builtin.firstCells i.size 0 (.slice none 0 0)).run Tryz.prog w.drew=.ok (#[]:Array Value) w.drew:=run_firstCells_none w.drew i.size 0 0 0
  have hrz:∀ ty,(Builtin.append_ #[23,3] ty #[.slice none 0 0,.int .i64 (n:Int)]).run Tryz.prog w=.ok (.slice (some ⟨w.heap.size,0,none⟩) n (grownCap w n 0 106)) (w.drew.alloc (.cells (#[]++Builtin.zeroCells #[.string ByteArray.empty,.slice none 0 0,.slice none 0 0] n++Builtin.zeroCells #[.string ByteArray.empty,.slice none 0 0,.slice none 0 0] (grownCap w n 0 106-n)) 106)):=fun ty=>by
   have h:=Lib.run_append_grow_zeros w 23 3 ty 106 i (.agg #[.string ByteArray.empty,.slice none 0 0,.slice none 0 0]) .i64 .i64 ht Tryz.underlying3 hi hz none 0 0 [] hold n hp (by omega) (by omega) (by omega) (by rw[hby];omega) (by rw[hby,Nat.zero_add];exact growslice_fits hp (by omega))
   simpa[Value.cells] using h
  have hge:=grownCap_ge w n 0 106
  have hle:=grownCap_le_maxLen w n 0 106 (by unfold maxLen;omega)
  generalize grownCap w n 0 106=G at *
  have hG63:G<=9223372036854775807:=by unfold maxLen at hle;omega
  have HLE:=hid hle
  clear hle hold ht hi hz hs hby
  go_enter Tryz.func197,Tryz.ntmps197
  go_wp2_with (at_builtin;refine Lib.wpList_append_run _ rfl _ _ _ _ rfl _ _ rfl rfl _ _ (hrz _) ?_)
  all_goals
   go_ret
   refine⟨_,rfl,⟨[],⟨rfl,fun j x h=>by simp at h⟩,by simp,.inr ⟨w.heap.size,G,_,rfl,Nat.le_refl _,heap_alloc_new _ _,Nat.zero_le _,HLE.out,?_,by simp⟩⟩,((Below.refl w.heap.size w).drew).alloc (Nat.le_refl _) _⟩
   simp[size_zeroCells]
   omega
theorem J3 (w0:World)(B0:Nat)(a b:List Kd)(va vb:Value)(B:Nat)(w:World)(h0:w.cell? ⟨B,0,none⟩=some va)(h1:w.cell? ⟨B,1,none⟩=some vb)(hB:B<w.heap.size)(ha:SlP w w.heap.size 3 (KdE w0 B0) va a)(hb:SlP w w.heap.size 3 (KdE w0 B0) vb b)(hN:a.length<=300000)(hN':b.length<=300000) :
  Calls Tryz.prog 160 #[.slice (some ⟨B,0,none⟩) 2 2] w (RetO w 106 3 (fun _=>KdE w0 B0) (a++b)):=by
 have HA:=hid ha
 have HB:=hid hb
 obtain⟨A1,c1,rfl,_⟩:=ha
 obtain⟨A2,c2,rfl,_⟩:=hb
 have hla:((catK a b 2).length:Int)=a.length+b.length:=by simp[catK]
 go_enter Tryz.func160,Tryz.ntmps160
 go_wp2_with fail
 go_loop [3,11] (fun s i=>∃ k:Nat,k<=2/\i=.int .i64 k/\s=.int .i64 ((catK a b k).length:Nat)) (fun _ i=>2-(intOf i).toNat)
 case atStart=>exact⟨0,by omega,rfl,rfl⟩
 case round=>
  obtain⟨k,hk,rfl,rfl⟩:=hrel
  match k,hk with
  |0,_=>
   clear hla
   simp only[catK,List.length_nil]
   go_wp2_with fail
   go_round
   case rel=>exact⟨1,by omega,rfl,by simp⟩
   case measure=>simp[intOf]
  |1,_=>
   clear hla
   simp only[catK]
   go_wp2_with fail
   go_round
   case rel=>exact⟨2,by omega,rfl,by simp⟩
   case measure=>simp[intOf]
  |2,_=>
   obtain⟨m,hm⟩:∃ m:Nat,m=(catK a b 2).length:=⟨_,rfl⟩
   rw[←hm]at hla ⊢
   have hm2:m<=600000:=by omega
   clear hla hm
   go_wp2_with fail
   refine (qQb w0 B0 m w (by omega)).mono ?_
   rintro e w1 ⟨v1,rfl,ho1,hb1⟩
   have hs1:=hb1.size
   go_wp2_with fail
   go_loopw [6,27] (fun v i wr=>∃ k:Nat,k<=2/\i=.int .i64 k/\OwnP wr w.heap.size 106 3 (KdE w0 B0) v (catK a b k)/\Below w.heap.size w wr) (fun _ i _=>2-(intOf i).toNat)
   case atStart=>exact⟨0,by omega,rfl,ho1,hb1⟩
   case round=>
    obtain⟨k,hk,rfl,hown,hbr⟩:=hrel
    have hsz:=hbr.size
    have e0:wr.cell? ⟨B,0,none⟩=some (.slice A1 a.length c1):=(hbr.cell (p:=⟨B,0,none⟩) hB).trans h0
    have e1:wr.cell? ⟨B,1,none⟩=some (.slice A2 b.length c2):=(hbr.cell (p:=⟨B,1,none⟩) hB).trans h1
    have HSA:=hid (HA.out.imp hbr hsz fun _ _ _ h=>h)
    have HSB:=hid (HB.out.imp hbr hsz fun _ _ _ h=>h)
    match k,hk with
    |0,_=>
     have HL:Hid ((catK a b 0).length+a.length<=Few):=by unfold Hid Few;simp[catK];omega
     go_wp2_with (at_builtin;refine Qj rfl (.tmp 31) (.tmp 32) _ rfl eiKid (by decide) (by decide) (fun _ _ h=>h.one) rfl hown rfl HSA.out HL.out hsz ?_;intro v2 w2 hown2 hb2 _)
     go_roundw
     case rel=>exact⟨1,by omega,rfl,by simpa[catK] using hown2,hbr.trans hb2⟩
     case measure=>simp[intOf]
    |1,_=>
     have HL:Hid ((catK a b 1).length+b.length<=Few):=by unfold Hid Few;simp[catK];omega
     go_wp2_with (at_builtin;refine Qj rfl (.tmp 31) (.tmp 32) _ rfl eiKid (by decide) (by decide) (fun _ _ h=>h.one) rfl hown rfl HSB.out HL.out hsz ?_;intro v2 w2 hown2 hb2 _)
     go_roundw
     case rel=>exact⟨2,by omega,rfl,by simpa[catK] using hown2,hbr.trans hb2⟩
     case measure=>simp[intOf]
    |2,_=>
     go_wp2_with fail
     go_ret
     exact⟨_,rfl,hown,hbr⟩
end Go.Proofs.YtidebdbjekijkaaGreat
namespace Go.Proofs
open Go.Shelf
def Tryz.sortStr_ren:Go.Shelf.Ren:=⟨fun|190=>142|125=>186|258=>185|128=>218|129=>219|302=>209|303=>210|304=>211|305=>212|306=>213|307=>214|308=>215|309=>216|310=>217|333=>235|329=>236|330=>237|334=>238|335=>239|336=>232|344=>244|n=>n,fun|31=>30|9=>9|3=>3|46=>206|0=>0|51=>236|53=>238|4=>4|183=>229|182=>228|131=>218|5=>5|218=>250|222=>254|228=>259|229=>260|n=>n,fun|n=>n⟩
theorem Tryz.sortStr:Go.Proofs.Lays.n190 Tryz.prog Tryz.sortStr_ren:={
 mixed:=by kernel_rfl
 f125:=Tryz.func186.trans (congrArg some (by kernel_rfl))
 f128:=Tryz.func218.trans (congrArg some (by kernel_rfl))
 f129:=Tryz.func219.trans (congrArg some (by kernel_rfl))
 f190:=Tryz.func142.trans (congrArg some (by kernel_rfl))
 f258:=Tryz.func185.trans (congrArg some (by kernel_rfl))
 f302:=Tryz.func209.trans (congrArg some (by kernel_rfl))
 f303:=Tryz.func210.trans (congrArg some (by kernel_rfl))
 f304:=Tryz.func211.trans (congrArg some (by kernel_rfl))
 f305:=Tryz.func212.trans (congrArg some (by kernel_rfl))
 f306:=Tryz.func213.trans (congrArg some (by kernel_rfl))
 f307:=Tryz.func214.trans (congrArg some (by kernel_rfl))
 f308:=Tryz.func215.trans (congrArg some (by kernel_rfl))
 f309:=Tryz.func216.trans (congrArg some (by kernel_rfl))
 f310:=Tryz.func217.trans (congrArg some (by kernel_rfl))
 f329:=Tryz.func236.trans (congrArg some (by kernel_rfl))
 f330:=Tryz.func237.trans (congrArg some (by kernel_rfl))
 f333:=Tryz.func235.trans (congrArg some (by kernel_rfl))
 f334:=Tryz.func238.trans (congrArg some (by kernel_rfl))
 f335:=Tryz.func239.trans (congrArg some (by kernel_rfl))
 f336:=Tryz.func232.trans (congrArg some (by kernel_rfl))
 f344:=Tryz.func244.trans (congrArg some (by kernel_rfl))
 t0:=Tryz.underlying0
 a0:=Tryz.isAgg0
 z0:=Tryz.sizeOf0
 v0:=Tryz.zeroValue0
 t3:=Tryz.underlying3
 a3:=Tryz.isAgg3
 z3:=Tryz.sizeOf3
 v3:=Tryz.zeroValue3
 t4:=Tryz.underlying4
 a4:=Tryz.isAgg4
 z4:=Tryz.sizeOf4
 v4:=Tryz.zeroValue4
 t5:=Tryz.underlying5
 a5:=Tryz.isAgg5
 z5:=Tryz.sizeOf5
 v5:=Tryz.zeroValue5
 t9:=Tryz.underlying9
 a9:=Tryz.isAgg9
 z9:=Tryz.sizeOf9
 v9:=Tryz.zeroValue9
 t31:=Tryz.underlying30
 a31:=Tryz.isAgg30
 z31:=Tryz.sizeOf30
 v31:=Tryz.zeroValue30
 t46:=Tryz.underlying206
 a46:=Tryz.isAgg206
 z46:=Tryz.sizeOf206
 v46:=Tryz.zeroValue206
 t51:=Tryz.underlying236
 a51:=Tryz.isAgg236
 z51:=Tryz.sizeOf236
 v51:=Tryz.zeroValue236
 t53:=Tryz.underlying238
 a53:=Tryz.isAgg238
 z53:=Tryz.sizeOf238
 v53:=Tryz.zeroValue238
 t131:=Tryz.underlying218
 a131:=Tryz.isAgg218
 z131:=Tryz.sizeOf218
 v131:=Tryz.zeroValue218
 t182:=Tryz.underlying228
 a182:=Tryz.isAgg228
 z182:=Tryz.sizeOf228
 v182:=Tryz.zeroValue228
 t183:=Tryz.underlying229
 a183:=Tryz.isAgg229
 z183:=Tryz.sizeOf229
 v183:=Tryz.zeroValue229
 t218:=Tryz.underlying250
 a218:=Tryz.isAgg250
 z218:=Tryz.sizeOf250
 v218:=Tryz.zeroValue250
 t222:=Tryz.underlying254
 a222:=Tryz.isAgg254
 z222:=Tryz.sizeOf254
 v222:=Tryz.zeroValue254
 t228:=Tryz.underlying259
 a228:=Tryz.isAgg259
 z228:=Tryz.sizeOf259
 v228:=Tryz.zeroValue259
 t229:=Tryz.underlying260
 a229:=Tryz.isAgg260
 z229:=Tryz.sizeOf260
 v229:=Tryz.zeroValue260 }
def Tryz.compactStr_ren:Go.Shelf.Ren:=⟨fun|194=>143|n=>n,fun|31=>30|9=>9|3=>3|4=>4|0=>0|n=>n,fun|n=>n⟩
theorem Tryz.compactStr:Go.Proofs.Lays.n194 Tryz.prog Tryz.compactStr_ren:={
 mixed:=by kernel_rfl
 f194:=Tryz.func143.trans (congrArg some (by kernel_rfl))
 t0:=Tryz.underlying0
 a0:=Tryz.isAgg0
 z0:=Tryz.sizeOf0
 v0:=Tryz.zeroValue0
 t3:=Tryz.underlying3
 a3:=Tryz.isAgg3
 z3:=Tryz.sizeOf3
 v3:=Tryz.zeroValue3
 t4:=Tryz.underlying4
 a4:=Tryz.isAgg4
 z4:=Tryz.sizeOf4
 v4:=Tryz.zeroValue4
 t9:=Tryz.underlying9
 a9:=Tryz.isAgg9
 z9:=Tryz.sizeOf9
 v9:=Tryz.zeroValue9
 t31:=Tryz.underlying30
 a31:=Tryz.isAgg30
 z31:=Tryz.sizeOf30
 v31:=Tryz.zeroValue30 }
end Go.Proofs
namespace Go.Proofs.YtidebdbjekijkaaGreat
open Go.RowKit
def joinS (out:List (Int×Int))(r:Int×Int):List (Int×Int):=
 match out.getLast? with
 |some q=>if r.1<=q.2+1 then out.set (out.length-1) (q.1,max q.2 r.2) else out++[r]
 |none=>[r]
def joinL (l:List (Int×Int)):List (Int×Int):=l.foldl joinS []
theorem Xr {l:List (Int×Int)}{k:Nat}{x:Int×Int}(h:l[k]?=some x):joinL (l.take (k+1))=joinS (joinL (l.take k)) x:=by
 unfold joinL;rw[List.take_add_one,h,List.foldl_append];rfl
theorem qQh (out:List (Int×Int))(r:Int×Int):(joinS out r).length<=out.length+1:=by
 unfold joinS;split
 ·split<;>simp
 ·simp
theorem Ye (l:List (Int×Int)):∀ k,(joinL (l.take k)).length<=k
 |0=>by simp[joinL]
 |k+1=>by
  cases h:l[k]? with
  |none=>
   have h1:=List.getElem?_eq_none_iff.1 h
   rw[List.take_of_length_le (by omega),←List.take_of_length_le (i:=k) h1]
   have:=Ye l k
   rw[List.take_of_length_le h1]at this ⊢;omega
  |some x=>
   rw[Xr h]
   have:=Ye l k
   have:=qQh (joinL (l.take k)) x
   omega
theorem qXe {out:List (Int×Int)}{r:Int×Int}(h:QT out)(hr:0<=r.1/\r.1<=1099511627777/\0<=r.2/\r.2<=1099511627777):QT (joinS out r):=by
 intro x hx
 unfold joinS at hx
 split at hx
 ·rename_i q hq
  split at hx
  ·rcases List.mem_or_eq_of_mem_set hx with hx|rfl
   ·exact h x hx
   ·have:=h q (List.mem_of_getLast? hq)
    refine⟨this.1,this.2.1,?_,?_⟩<;>simp only[Int.max_def]<;>split<;>omega
  ·rcases List.mem_append.1 hx with hx|hx
   ·exact h x hx
   ·simp at hx;subst hx;exact hr
 ·simp at hx;subst hx;exact hr
theorem qXf {l:List (Int×Int)}(h:QT l):QT (joinL l):=by
 unfold joinL
 suffices ∀ (l out:List (Int×Int)),QT l->QT out->QT (l.foldl joinS out) from this l [] h (fun _ h=>by cases h)
 intro l
 induction l with
 |nil=>intro out _ ho;exact ho
 |cons x l ih=>intro out hl ho;exact ih _ (fun r hr=>hl r (List.mem_cons_of_mem _ hr)) (qXe ho (hl x (by simp)))
theorem Vq (L:List (Int×Int))(q r:Int×Int):joinS (L++[q]) r=if r.1<=q.2+1 then L++[(q.1,max q.2 r.2)] else L++[q]++[r]:=by
 unfold joinS
 rw[List.getLast?_concat]
 simp
theorem J6 {out:List (Int×Int)}{r:Int×Int}(h:runsR none out=true)(hr:runOk r)(ho:∀ q,out.getLast?=some q->q.1<=r.1) :
  runsR none (joinS out r)=true/\(∀ n,hasL (joinS out r) n=(hasL out n||inR r n))/\(∀ q,(joinS out r).getLast?=some q->q.1<=r.1):=by
 rcases List.eq_nil_or_concat out with rfl|⟨L,q,rfl⟩
 ·refine⟨?_,fun n=>?_,fun q hq=>?_⟩
  ·exact (Za none r).2 ⟨hr,rfl⟩
  ·simp[joinS,hasL]
  ·simp[joinS]at hq;subst hq;exact Int.le_refl _
 ·rw[List.concat_eq_append]at *
  have hq:=ho q (by simp)
  have hqo:=ZF L none q h
  rw[Vq]
  unfold runOk at *
  split
  ·rename_i hc
   refine⟨YB L none q _ h (by omega) (by omega),fun n=>?_,fun x hx=>?_⟩
   ·rw[Zf,Zf,Bool.or_assoc]
    congr 1
    rw[Bool.eq_iff_iff]
    simp[hasL,inR]
    omega
   ·simp at hx;subst hx;exact hq
  ·rename_i hc
   refine⟨(YA L none q r).2 ⟨h,hr,by omega⟩,fun n=>?_,fun x hx=>?_⟩
   ·rw[Zf];simp[hasL]
   ·simp at hx;subst hx;exact Int.le_refl _
theorem Y2 {l:List (Int×Int)}(hl:∀ r∈l,runOk r)(hs:l.Pairwise fun a b=>a.1<=b.1):runsR none (joinL l)=true/\∀ n,hasL (joinL l) n=hasL l n:=by
 suffices ∀ (l out:List (Int×Int)),(∀ r∈l,runOk r)->l.Pairwise (fun a b=>a.1<=b.1)->runsR none out=true->(∀ q,out.getLast?=some q->∀ r∈l,q.1<=r.1) ->
   runsR none (l.foldl joinS out)=true/\∀ n,hasL (l.foldl joinS out) n=(hasL out n||hasL l n) by
  have:=this l [] hl hs rfl (fun q h=>by simp at h)
  exact⟨this.1,fun n=>by rw[joinL,this.2];simp[hasL]⟩
 intro l
 induction l with
 |nil=>intro out _ _ h _;exact⟨h,fun n=>by simp[hasL]⟩
 |cons r l ih=>
  intro out hl hs h ho
  rw[List.pairwise_cons]at hs
  obtain⟨j1,j2,j3⟩:=J6 h (hl r (by simp)) (fun q hq=>ho q hq r (by simp))
  obtain⟨k1,k2⟩:=ih (joinS out r) (fun x hx=>hl x (by simp[hx])) hs.2 j1 (fun q hq x hx=>Int.le_trans (j3 q hq) (hs.1 x hx))
  refine⟨k1,fun n=>?_⟩
  rw[List.foldl_cons,k2,j2,Bool.or_assoc];simp[hasL]
theorem OwnP.drewN {α:Type}{w:World}{base:Nat}{e:TypeId}{sz:Nat}{E:α->List Value->Prop}{v:Value}{xs:List α}(h:OwnP w base e sz E v xs)(n:Nat):OwnP (w.drewN n) base e sz E v xs:=h.keep fun _ _=>rfl
theorem XU {B:Nat}{a w:World}(h:Below B a w)(n:Nat):Below B a (w.drewN n):=h.trans ⟨rfl,rfl,rfl,Nat.le_refl _,fun _ _=>rfl⟩
theorem Y3 (l:List (Int×Int))(v:Value)(w:World)(h:SlP w w.heap.size 2 RuE v l)(hN:l.length<=900000)(hR:QT l) :
  Calls Tryz.prog 158 #[v] w (RetO w 181 2 (fun _=>RuE) (joinL l)):=by
 obtain⟨A,n,rfl,b1,b2,b3⟩:=h
 unfold Big at b2
 go_enter Tryz.func158,Tryz.ntmps158
 go_wp2_with fail
 go_loopw [3,9] (fun v i wr=>∃ k:Nat,k<=l.length/\i=.int .i64 k/\OwnP wr w.heap.size 181 2 RuE v (joinL (l.take k))/\Below w.heap.size w wr) (fun _ i _=>l.length-(intOf i).toNat)
 case atStart=>exact⟨0,Nat.zero_le _,rfl,OwnP.nil,Below.refl _ _⟩
 case round=>
  obtain⟨k,hk,rfl,hown,hb⟩:=hrel
  have hsz:=hb.size
  by_cases hlt:k<l.length
  ·obtain⟨r,hx⟩:∃ x,l[k]?=some x:=⟨_,List.getElem?_eq_getElem hlt⟩
   obtain⟨b,off,rfl,hbB,hc⟩:=b3 (by rintro rfl;simp at hlt)
   obtain⟨cs,⟨rfl,hok⟩,_,hu⟩:=hc k _ hx
   have e0:wr.cell? ⟨b,off+k*2,none⟩=some (.int .i64 r.1):=(hb.cell hbB).trans (hu 0 _ rfl)
   have e1:wr.cell? ⟨b,off+k*2+1,none⟩=some (.int .i64 r.2):=(hb.cell hbB).trans (hu 1 _ rfl)
   have hr:=hR r (List.mem_of_getElem? hx)
   have HJ:Hid (joinL (l.take (k+1))=joinS (joinL (l.take k)) r):=Xr hx
   have hol:=Ye l k
   have hjo:QT (joinL (l.take k)):=qXf fun x hx=>hR x (List.mem_of_mem_take hx)
   have HRE:Hid (RuE r [.int .i64 r.1,.int .i64 r.2]):=⟨rfl,hok⟩
   generalize joinL (l.take k)=out at *
   have HL:Hid (out.length + [r].length<=Few):=by unfold Hid Few;simp;omega
   clear hu hc b3 hx hok
   rcases Nat.eq_zero_or_pos out.length with hz|hz
   ·obtain rfl:out=[]:=List.eq_nil_of_length_eq_zero hz
    have HX:Hid (joinL (l.take (k+1))=[]++[r]):=by unfold Hid;rw[HJ.out];rfl
    obtain⟨A8,c8,rfl⟩:=hown.shape
    clear hz hol
    simp only[List.length_nil]at hown ⊢
    go_wp2_with fail
    go_quiet (fail)
    go_wp2_with (at_builtin;go_loud ((refine Qj rfl (.tmp 43) (.tmp 45) _ rfl eiRun (by decide) (by decide) (fun _ _ h=>h.one) rfl (((hown.alloc _).drewN _).alloc _) rfl (SlP.one (x:=r) HRE.out rfl _ (by rw[World.heap_drewN,World.size_alloc])) HL.out (by rw[World.size_alloc,World.heap_drewN,World.size_alloc];omega) ?_);intro v1 w1 hown1 hb1 _;have hb2:=(((XU ((Below.refl w.heap.size wr).alloc hsz _) _).alloc (by rw[World.heap_drewN,World.size_alloc];omega) _).trans hb1)))
    go_roundw
    case rel=>exact⟨k+1,by omega,by go_num,by rw[HX.out];exact hown1,hb.trans hb2⟩
    case measure=>simp[intOf];omega
   ·obtain⟨q,hq⟩:∃ q,out[out.length-1]?=some q:=⟨_,List.getElem?_eq_getElem (by omega)⟩
    have hqo:=hjo q (List.mem_of_getElem? hq)
    obtain⟨g,cap,rfl,hg1,hg2,c0,c1,hfz,_⟩:=hown.setRun hq (z:=max q.2 r.2) ⟨by omega,by omega⟩
    have hmx:max q.2 r.2=if q.2<r.2 then r.2 else q.2:=by split<;>omega
    have hset:∀ n,OwnP (((wr.alloc (.cells #[.int .i64 r.1,.int .i64 r.2] 181)).drewN n).setCell ⟨g,(out.length-1)*2+1,none⟩ (.int .i64 (if q.2<r.2 then r.2 else q.2))) w.heap.size 181 2 RuE (.slice (some ⟨g,0,none⟩) out.length cap) (out.set (out.length-1) (q.1,max q.2 r.2)):=fun n=>by
     rw[←hmx]
     obtain⟨g',cap',e,_,_,_,_,_,h⟩:=((hown.alloc (.cells #[.int .i64 r.1,.int .i64 r.2] 181)).drewN n).setRun hq (z:=max q.2 r.2) ⟨by omega,by omega⟩
     cases e;exact h
    have hfz1:=hfz ((out.length-1)*2+1)
    have HJS:Hid (joinS out r=if r.1<=q.2+1 then out.set (out.length-1) (q.1,max q.2 r.2) else out++[r]):=by
     unfold Hid joinS;rw[List.getLast?_eq_getElem?,hq]
    have HMX:=hid hmx
    have HS2:Hid (∀ n,OwnP (((wr.alloc (.cells #[.int .i64 r.1,.int .i64 r.2] 181)).drewN n).setCell ⟨g,(out.length-1)*2+1,none⟩ (.int .i64 (if q.2<r.2 then r.2 else q.2))) w.heap.size 181 2 RuE (.slice (some ⟨g,0,none⟩) out.length cap) (out.set (out.length-1) (q.1,if q.2<r.2 then r.2 else q.2))):=fun n=>by
     have h1:=hset n
     rw[hmx]at h1;exact h1
    clear hq hfz hjo hmx
    have h1l:(1:Int)<=(out.length:Int):=by omega
    have h2l:(out.length:Int)-1<(out.length:Int):=by omega
    have h0':decide (0<out.length)=true:=by simp;omega
    have h0'':decide ((0:Int)<(out.length:Int))=true:=by simp;omega
    have hwq:IntKind.i64.wrap (q.2+1)=q.2+1:=IntWalk.i64_in _ (by omega)
    have hwk:IntKind.i64.wrap ((out.length:Int)-1)=(out.length:Int)-1:=IntWalk.i64_in _ (by omega)
    rcases t5:decide (r.1<=q.2+1)
    ·have HX:Hid (joinL (l.take (k+1))=out++[r]):=by unfold Hid;rw[HJ.out,HJS.out,if_neg (of_decide_eq_false t5)]
     clear hset HJS HJ
     go_wp2_with fail
     go_quiet (fail)
     go_wp2_with (at_builtin;go_loud ((refine Qj rfl (.tmp 43) (.tmp 45) _ rfl eiRun (by decide) (by decide) (fun _ _ h=>h.one) rfl (((hown.alloc _).drewN _).alloc _) rfl (SlP.one (x:=r) HRE.out rfl _ (by rw[World.heap_drewN,World.size_alloc])) HL.out (by rw[World.size_alloc,World.heap_drewN,World.size_alloc];omega) ?_);intro v1 w1 hown1 hb1 _;have hb2:=(((XU ((Below.refl w.heap.size wr).alloc hsz _) _).alloc (by rw[World.heap_drewN,World.size_alloc];omega) _).trans hb1)))
     go_roundw
     case rel=>exact⟨k+1,by omega,by go_num,by rw[HX.out];exact hown1,hb.trans hb2⟩
     case measure=>simp[intOf];omega
    ·have HX:Hid (joinL (l.take (k+1))=out.set (out.length-1) (q.1,max q.2 r.2)):=by unfold Hid;rw[HJ.out,HJS.out,if_pos (of_decide_eq_true t5)]
     have HS:=hid hset
     clear hset HJS HJ
     go_wp2_with fail
     go_quiet (fail)
     go_wp2_with fail
     go_region
     all_goals
      go_wp2_with fail
      go_roundw
      case rel=>exact⟨k+1,by omega,by go_num,by rw[HX.out];first|exact HS.out _|exact HS2.out _|(rw[HMX.out];exact HS.out _)|(rw[HMX.out];exact HS2.out _),hb.trans ((XU ((Below.refl w.heap.size wr).alloc hsz _) _).setCell (by exact hg1) _)⟩
      case measure=>simp[intOf];omega
  ·obtain rfl:k=l.length:=by omega
   rw[List.take_of_length_le (Nat.le_refl _)]at hown
   go_wp2_with fail
   go_ret
   exact⟨_,rfl,hown,hb⟩
def idxI {α:Type}(p:α->Bool)(l:List α):Int:=match l.findIdx? p with|some i=>(i:Int)|none=>-1
theorem qZ5 {α:Type}{p:α->Bool}{l:List α}{k:Nat}{x:α}(h:∀ (j:Nat) y,j<k->l[j]?=some y->p y=false)(hx:l[k]?=some x)(hp:p x=true):idxI p l=(k:Int):=by
 have hlt:=(List.getElem?_eq_some_iff.1 hx).1
 have:l.findIdx? p=some k:=by
  rw[List.findIdx?_eq_some_iff_getElem]
  refine⟨hlt,by rw[(List.getElem?_eq_some_iff.1 hx).2];exact hp,fun j hj=>?_⟩
  rw[h j _ hj (List.getElem?_eq_getElem (by omega))];simp
 unfold idxI;rw[this]
theorem VW {α:Type}{p:α->Bool}{l:List α}(h:∀ (j:Nat) y,j<l.length->l[j]?=some y->p y=false):idxI p l=-1:=by
 have:l.findIdx? p=none:=by
  rw[List.findIdx?_eq_none_iff]
  intro x hx
  obtain⟨j,hj⟩:=List.getElem?_of_mem hx
  exact h j x (List.getElem?_eq_some_iff.1 hj).1 hj
 unfold idxI;rw[this]
theorem qZ6 {α:Type}(p:α->Bool)(l:List α):decide (0<=idxI p l)=l.any p:=by
 unfold idxI
 cases h:l.findIdx? p with
 |none=>
  rw[List.findIdx?_eq_none_iff]at h
  rw[Bool.eq_iff_iff]
  simp[List.any_eq_true]
  exact h
 |some i=>
  rw[List.findIdx?_eq_some_iff_getElem]at h
  obtain⟨hlt,hp,_⟩:=h
  have:l.any p=true:=List.any_eq_true.2 ⟨l[i],List.getElem_mem hlt,hp⟩
  rw[this];simp
theorem qYl {α:Type}(p:α->Bool)(l:List α):-1<=idxI p l/\idxI p l<l.length+1:=by
 unfold idxI
 cases h:l.findIdx? p with
 |none=>simp;omega
 |some i=>
  rw[List.findIdx?_eq_some_iff_getElem]at h
  obtain⟨hlt,_⟩:=h
  simp;omega
def JZ (g:Nat)(lb:Array Value)(p:Int×Int->Bool)(w:World):Prop:=
 (∀ args W,(callFunc g args).run Tryz.prog W=.ok (.enter g args) W) /\
 ∀ (x:Int×Int) (W:World),Below w.heap.size w W->Calls Tryz.prog g (#[.agg #[.int .i64 x.1,.int .i64 x.2]]++lb) W fun e w'=>e=.returned (.bool (p x))/\Below W.heap.size W w'
theorem Vi (p:Int×Int->Bool)(g:Nat)(lb:Array Value)(l:List (Int×Int))(v:Value)(w:World)(h:SlP w w.heap.size 2 RuE v l)(ht:JZ g lb p w) :
  Calls Tryz.prog 221 #[v,.func (.func g) #[] lb] w fun e w'=>e=.returned (.int .i64 (idxI p l))/\Below w.heap.size w w':=by
 obtain⟨A,n,rfl,b1,b2,b3⟩:=h
 obtain⟨eg,ht⟩:=ht
 unfold Big at b2
 go_enter Tryz.func221,Tryz.ntmps221
 go_wp2_with fail
 go_loopw [8] (fun i wr=>∃ k:Nat,k<=l.length/\i=.int .i64 k/\Hid (∀ (j:Nat) y,j<k->l[j]?=some y->p y=false)/\Below w.heap.size w wr) (fun i _=>l.length-(intOf i).toNat)
 case atStart=>exact⟨0,Nat.zero_le _,rfl,fun j y hj=>absurd hj (Nat.not_lt_zero _),Below.refl _ _⟩
 case round=>
  obtain⟨k,hk,rfl,hrel,hb⟩:=hrel
  have hsz:=hb.size
  by_cases hlt:k<l.length
  ·obtain⟨x,hx⟩:∃ x,l[k]?=some x:=⟨_,List.getElem?_eq_getElem hlt⟩
   obtain⟨b,off,rfl,hbB,hc⟩:=b3 (by rintro rfl;simp at hlt)
   obtain⟨cs,⟨rfl,hok⟩,_,hu⟩:=hc k _ hx
   have e0:wr.cell? ⟨b,off+k*2,none⟩=some (.int .i64 x.1):=(hb.cell hbB).trans (hu 0 _ rfl)
   have e1:wr.cell? ⟨b,off+k*2+1,none⟩=some (.int .i64 x.2):=(hb.cell hbB).trans (hu 1 _ rfl)
   have hcall:=ht x wr hb
   have HX:=hid hx
   clear hu hx hc b3 hok ht
   cases hq:p x
   ·have HQ:=hid hq
    rw[hq]at hcall
    clear hq
    go_wp2_with (go_at_fn g;refine hcall.mono ?_;rintro e w1 ⟨rfl,hb1⟩)
    go_roundw
    case rel=>
     refine⟨k+1,by omega,by go_num,fun j y hj hy=>?_,hb.trans (hb1.mono hsz)⟩
     by_cases hjk:j=k
     ·subst hjk;have h2:=HX.out;rw[hy]at h2;cases h2;exact HQ.out
     ·exact hrel.out j y (by omega) hy
    case measure=>simp[intOf];omega
   ·have HQ:=hid hq
    rw[hq]at hcall
    clear hq
    go_wp2_with (go_at_fn g;refine hcall.mono ?_;rintro e w1 ⟨rfl,hb1⟩)
    go_ret
    exact⟨QG (qZ5 hrel.out HX.out HQ.out).symm,hb.trans (hb1.mono hsz)⟩
  ·obtain rfl:k=l.length:=by omega
   go_wp2_with fail
   go_ret
   exact⟨QG (VW hrel.out).symm,hb⟩
theorem Vj (p:Int×Int->Bool)(g:Nat)(lb:Array Value)(l:List (Int×Int))(v:Value)(w:World)(h:SlP w w.heap.size 2 RuE v l)(ht:JZ g lb p w) :
  Calls Tryz.prog 191 #[v,.func (.func g) #[] lb] w fun e w'=>e=.returned (.bool (l.any p))/\Below w.heap.size w w':=by
 have hbd:=qYl p l
 have HA:=hid (qZ6 p l)
 obtain⟨A,n,rfl,b1,b2,b3⟩:=h
 unfold Big at b2
 go_enter Tryz.func191,Tryz.ntmps191
 go_wp2_with fail
 refine (Vi p g lb l _ w ⟨A,n,rfl,b1,by unfold Big;omega,b3⟩ ht).mono ?_
 rintro e w1 ⟨rfl,hb1⟩
 go_wp2_with fail
 go_ret
 exact⟨Qd HA.out,hb1⟩
theorem Vk (x:Int×Int)(n:Int)(B:Nat)(w:World)(hc:w.cell? ⟨B,0,none⟩=some (.int .i64 n))(hB:B<w.heap.size) :
  Calls Tryz.prog 192 #[.agg #[.int .i64 x.1,.int .i64 x.2],.pointer (some ⟨B,0,none⟩)] w fun e w'=>e=.returned (.bool (inR x n))/\Below w.heap.size w w':=by
 have hne:B≠w.heap.size:=by omega
 rcases t1:decide (x.1<=n)
 ·have HR:Hid (inR x n=false):=by unfold Hid inR;rw[t1];rfl
  go_enter Tryz.func192,Tryz.ntmps192
  go_wp2_with fail
  go_ret
  exact⟨Qd HR.out.symm,by go_grown⟩
 ·have HR:Hid (inR x n=decide (n<=x.2)):=by unfold Hid inR;rw[t1];rfl
  go_enter Tryz.func192,Tryz.ntmps192
  go_wp2_with fail
  go_ret
  exact⟨Qd HR.out.symm,by go_grown⟩
def sHas (l:List (Int×Int))(n:Int):Bool:=runsR none l&&hasL l n
theorem qZ7 (l:List (Int×Int))(n:Int)(v:Value)(w:World)(h:SlP w w.heap.size 2 RuE v l) :
  Calls Tryz.prog 153 #[v,.int .i64 n] w fun e w'=>e=.returned (.bool (sHas l n))/\Below w.heap.size w w':=by
 have hs:SlP (w.alloc (.cells #[.int .i64 n] 2)) (w.alloc (.cells #[.int .i64 n] 2)).heap.size 2 RuE v l:=SlP.imp h ((Below.refl _ w).alloc (Nat.le_refl _) _) (by simp) fun _ _ _ h=>h
 have HS:=hid hs
 clear hs h
 go_enter Tryz.func153,Tryz.ntmps153
 go_wp2_with fail
 refine (Zm l v _ HS.out).mono ?_
 rintro e w1 ⟨rfl,hb1⟩
 have hs1:=hb1.size
 simp only[World.size_alloc]at hs1
 have hB:Below w.heap.size w w1:=((Below.refl _ w).alloc (Nat.le_refl _) _).trans (hb1.mono (by simp))
 have hc:w1.cell? ⟨w.heap.size,0,none⟩=some (.int .i64 n):=by rw[hb1.cell (p:=⟨w.heap.size,0,none⟩) (by simp)];simp
 have HT:Hid (JZ 192 #[.pointer (some ⟨w.heap.size,0,none⟩)] (fun r=>inR r n) w1):=
  ⟨enters_of Tryz.func192 (by kernel_rfl) rfl,fun x W hW=>Vk x n w.heap.size W ((hW.cell (p:=⟨w.heap.size,0,none⟩) (by show w.heap.size<_;omega)).trans hc) (by have:=hW.size;omega)⟩
 have hs2:SlP w1 w1.heap.size 2 RuE v l:=SlP.imp HS.out hb1 (by simpa using hs1) fun _ _ _ h=>h
 have HS2:=hid hs2
 clear hs2
 cases hr:runsR none l
 ·have HR:Hid (sHas l n=false):=by unfold Hid sHas;rw[hr];rfl
  clear hr
  go_wp2_with fail
  go_ret
  exact⟨Qd HR.out.symm,hB⟩
 ·have HR:Hid (sHas l n=l.any fun r=>inR r n):=by unfold Hid sHas;rw[hr];rfl
  clear hr
  go_wp2_with fail
  refine (Vj (fun r=>inR r n) _ _ l v w1 HS2.out HT.out).mono ?_
  rintro e w2 ⟨rfl,hb2⟩
  go_wp2_with fail
  go_ret
  exact⟨Qd HR.out.symm,hB.trans (hb2.mono (by omega))⟩
def cHas (c:List Sp)(d:Dt):Bool:=Ql c&&(d.right&&sHas (partL c d.dc) d.n)
theorem Z2 (c:List Sp)(d:Dt)(vc:Value)(w:World)(h:SlP w w.heap.size 3 SpE vc c)(hN:c.length<=900000) :
  Calls Tryz.prog 114 #[vc,.agg #[.int .i64 d.dc,.int .i64 d.n]] w fun e w'=>e=.returned (.bool (cHas c d))/\Below w.heap.size w w':=by
 have HC:Hid (∀ w',Below w.heap.size w w'->SlP w' w'.heap.size 3 SpE vc c):=fun w' hb=>h.imp hb hb.size (fun _ _ _ h=>h)
 obtain⟨A,n,rfl,_,_,_⟩:=h
 obtain⟨dc,num⟩:=d
 go_enter Tryz.func114,Tryz.ntmps114
 go_wp2_with fail
 refine (Z1 c _ _ (HC.out _ ((Below.refl _ w).alloc (Nat.le_refl _) _)) hN).mono ?_
 rintro e w1 ⟨vs,rfl,hsl,hb1⟩
 have hs1:=hb1.size
 simp only[World.size_alloc]at hs1
 have hB1:Below w.heap.size w w1:=((Below.refl _ w).alloc (Nat.le_refl _) _).trans (hb1.mono (by simp))
 have b0:w1.cell? ⟨w.heap.size,0,none⟩=some (.int .i64 dc):=by rw[hb1.cell (p:=⟨w.heap.size,0,none⟩) (by simp)];simp
 have b1:w1.cell? ⟨w.heap.size,1,none⟩=some (.int .i64 num):=by rw[hb1.cell (p:=⟨w.heap.size,1,none⟩) (by simp)];simp
 obtain⟨A0,m0,g0,_⟩:=hsl 0 (by omega)
 obtain⟨A1,m1,g1,_⟩:=hsl 1 (by omega)
 obtain⟨A2,m2,g2,_⟩:=hsl 2 (by omega)
 obtain⟨A3,m3,g3,_⟩:=hsl 3 (by omega)
 have HSL:=hid (fun i (hi:i<4)=>(hsl i hi).slp (fun b hb=>hb.2) (Below.refl _ w1))
 clear hsl
 cases hap:Ql c
 ·have HR:Hid (cHas c ⟨dc,num⟩=false):=by unfold Hid cHas;rw[hap];rfl
  simp only[hap,Bool.false_eq_true,if_false]at g0 g1 g2 g3
  simp only[g0,g1,g2,g3]
  clear hap g0 g1 g2 g3
  go_upto_region 2 with (fail)
  refine Qc (w1.heap.size+1) (by kernel_rfl) (by kernel_rfl) ?_
  repeat (go_big_quiet_step (fail))
  refine wpQuiet_nil ?_
  intro wq hbq
  have hbw:Below w.heap.size w wq:=(hB1.alloc (by omega) _).trans (hbq.mono (by omega))
  go_wp2_with fail
  go_ret
  exact⟨Qd HR.out.symm,hbw⟩
 simp only[hap,if_true]at g0 g1 g2 g3
 simp only[g0,g1,g2,g3]
 cases hr:Dt.right ⟨dc,num⟩
 ·have HR:Hid (cHas c ⟨dc,num⟩=false):=by unfold Hid cHas;rw[hap,hr];rfl
  go_upto_region 2 with (fail)
  have f0:=Qf (B:=w1.heap.size+1) (w:=w1.alloc (.cells #[.slice A0 (partL c 0).length m0,.slice A1 (partL c 1).length m1,.slice A2 (partL c 2).length m2,.slice A3 (partL c 3).length m3] 150)) (b:=w.heap.size) (o:=0) (v:=.int .i64 dc) (by rw[World.cell?_alloc_lt _ _ _ (by show w.heap.size<_;omega)];exact b0) (by omega)
  have f1:=Qf (B:=w1.heap.size+1) (w:=w1.alloc (.cells #[.slice A0 (partL c 0).length m0,.slice A1 (partL c 1).length m1,.slice A2 (partL c 2).length m2,.slice A3 (partL c 3).length m3] 150)) (b:=w.heap.size) (o:=1) (v:=.int .i64 num) (by rw[World.cell?_alloc_lt _ _ _ (by show w.heap.size<_;omega)];exact b1) (by omega)
  have HRI:=hid hr
  clear hap hr g0 g1 g2 g3
  refine Qc (w1.heap.size+1) (by kernel_rfl) (by kernel_rfl) ?_
  repeat (go_big_quiet_step ((go_at_call 86;exact Calls.far_of (by simp) (HRI.out▸Qy ⟨dc,num⟩ _))))
  refine wpQuiet_nil ?_
  intro wq hbq
  have hbw:Below w.heap.size w wq:=(hB1.alloc (by omega) _).trans (hbq.mono (by omega))
  go_wp2_with fail
  go_ret
  exact⟨Qd HR.out.symm,hbw⟩
 ·have hbd:(0<=dc/\dc<4)/\1<=num/\num<=1099511627776:=by simpa[Dt.right,and_assoc] using hr
  obtain⟨dn,rfl⟩:∃ dn:Nat,dc=(dn:Int):=⟨dc.toNat,by omega⟩
  have hd4:dn<4:=by omega
  have hdi:(dn:Int)<4:=by omega
  have HR:Hid (cHas c ⟨dn,num⟩=sHas (partL c dn) num):=by unfold Hid cHas;rw[hap,hr];rfl
  obtain⟨Ad,md,gd,_⟩:=HSL.out dn hd4
  rw[if_pos hap]at gd
  have hcell:(w1.alloc (.cells #[.slice A0 (partL c 0).length m0,.slice A1 (partL c 1).length m1,.slice A2 (partL c 2).length m2,.slice A3 (partL c 3).length m3] 150)).cell? ⟨w1.heap.size,dn,none⟩=some (.slice Ad (partL c dn).length md):=by
   rw[Qa (Qh rfl),←gd]
   match dn,hd4 with
   |0,_=>rw[g0];rfl
   |1,_=>rw[g1];rfl
   |2,_=>rw[g2];rfl
   |3,_=>rw[g3];rfl
  have HS3:Hid (∀ w',Below w1.heap.size w1 w'->SlP w' w'.heap.size 2 RuE (.slice Ad (partL c dn).length md) (partL c dn)):=fun w' hb=>by
   have:=HSL.out dn hd4
   rw[if_pos hap,gd]at this
   exact this.imp hb hb.size fun _ _ _ h=>h
  go_upto_region 2 with (fail)
  have f0:=Qf (B:=w1.heap.size+1) (w:=w1.alloc (.cells #[.slice A0 (partL c 0).length m0,.slice A1 (partL c 1).length m1,.slice A2 (partL c 2).length m2,.slice A3 (partL c 3).length m3] 150)) (b:=w.heap.size) (o:=0) (v:=.int .i64 (dn:Int)) (by rw[World.cell?_alloc_lt _ _ _ (by show w.heap.size<_;omega)];exact b0) (by omega)
  have f1:=Qf (B:=w1.heap.size+1) (w:=w1.alloc (.cells #[.slice A0 (partL c 0).length m0,.slice A1 (partL c 1).length m1,.slice A2 (partL c 2).length m2,.slice A3 (partL c 3).length m3] 150)) (b:=w.heap.size) (o:=1) (v:=.int .i64 num) (by rw[World.cell?_alloc_lt _ _ _ (by show w.heap.size<_;omega)];exact b1) (by omega)
  have f2:=Qf (B:=w1.heap.size+1) hcell (by omega)
  have HRI:=hid hr
  clear hap hr g0 g1 g2 g3 gd hcell
  refine Qc (w1.heap.size+1) (by kernel_rfl) (by kernel_rfl) ?_
  repeat (go_big_quiet_step (first|(go_at_call 86;exact Calls.far_of (by simp) (HRI.out▸Qy ⟨dn,num⟩ _))|(go_at_call 153;exact Calls.far_all (by simp) (fun w' hb'=>qZ7 (partL c dn) num _ w' (HS3.out w' (((Below.refl _ w1).alloc (Nat.le_refl _) _).trans (hb'.mono (by omega))))))))
  refine wpQuiet_nil ?_
  intro wq hbq
  have hbw:Below w.heap.size w wq:=(hB1.alloc (by omega) _).trans (hbq.mono (by omega))
  go_wp2_with fail
  go_ret
  exact⟨Qd HR.out.symm,hbw⟩
def stayL (c:List Sp)(x:En):List En:=if cHas c x.dot then [] else [x]
def entL (ca cb:List Sp):List En->List En->List En
 |[],[]=>[]
 |x :: a,[]=>stayL cb x++entL ca cb a []
 |[],y :: b=>stayL ca y++entL ca cb [] b
 |x :: a,y :: b=>if x.dot.lt y.dot then stayL cb x++entL ca cb a (y :: b) else if y.dot.lt x.dot then stayL ca y++entL ca cb (x :: a) b else grtE x y :: entL ca cb a b
termination_by a b=>a.length+b.length
theorem Z3 (c:List Sp)(x:En):(stayL c x).length<=1:=by unfold stayL;split<;>simp
theorem Zq (ca cb:List Sp):∀ (n:Nat) (a b:List En),a.length+b.length<=n->(entL ca cb a b).length<=a.length+b.length
 |n,[],[],_=>by rw[entL];simp
 |0,x :: a,_,h=>by simp at h
 |0,[],y :: b,h=>by simp at h
 |n+1,x :: a,[],h=>by
  have h1:=Z3 cb x
  have h2:=Zq ca cb n a [] (by simp at h ⊢;omega)
  rw[entL,List.length_append];simp at h2 ⊢;omega
 |n+1,[],y :: b,h=>by
  have h1:=Z3 ca y
  have h2:=Zq ca cb n [] b (by simp at h ⊢;omega)
  rw[entL,List.length_append];simp at h2 ⊢;omega
 |n+1,x :: a,y :: b,h=>by
  have h1:=Z3 cb x
  have h2:=Z3 ca y
  have h3:=Zq ca cb n a (y :: b) (by simp at h ⊢;omega)
  have h4:=Zq ca cb n (x :: a) b (by simp at h ⊢;omega)
  have h5:=Zq ca cb n a b (by simp at h ⊢;omega)
  rw[entL]
  split
  ·rw[List.length_append];simp at h3 ⊢;omega
  ·split
   ·rw[List.length_append];simp at h4 ⊢;omega
   ·simp at h5 ⊢;omega
theorem VY (a b:Dt):decide (a.cmp b<0)=a.lt b:=by
 rw[←Bool.not_not (a.lt b),←VS,Bool.eq_iff_iff]
 simp
theorem Jc (a b:List En)(ca cb:List Sp)(va vb vca vcb:Value)(w:World)(ha:SlP w w.heap.size 4 EnE va a)(hb:SlP w w.heap.size 4 EnE vb b)(hca:SlP w w.heap.size 3 SpE vca ca)(hcb:SlP w w.heap.size 3 SpE vcb cb)(hN:a.length+b.length<=900000)(hN1:ca.length<=900000)(hN2:cb.length<=900000) :
  Calls Tryz.prog 159 #[va,vb,vca,vcb] w (RetO w 92 4 (fun _=>EnE) (entL ca cb a b)):=by
 have HCA:Hid (∀ w',Below w.heap.size w w'->SlP w' w'.heap.size 3 SpE vca ca):=fun w' hb=>hca.imp hb hb.size fun _ _ _ h=>h
 have HCB:Hid (∀ w',Below w.heap.size w w'->SlP w' w'.heap.size 3 SpE vcb cb):=fun w' hb=>hcb.imp hb hb.size fun _ _ _ h=>h
 obtain⟨A1,m1,rfl,a1,a2,a3⟩:=ha
 obtain⟨A2,m2,rfl,b1,b2,b3⟩:=hb
 obtain⟨A3,m3,rfl,_,_,_⟩:=hca
 obtain⟨A4,m4,rfl,_,_,_⟩:=hcb
 unfold Big at a2 b2
 go_enter Tryz.func159,Tryz.ntmps159
 go_wp2_with fail
 go_loopw [9,10,11] (fun v i k wr=>∃ (out:List En) (p q:Nat),OwnP wr w.heap.size 92 4 EnE v out/\i=.int .i64 p/\k=.int .i64 q/\p<=a.length/\q<=b.length/\Hid (out++entL ca cb (a.drop p) (b.drop q)=entL ca cb a b)/\out.length<=p+q/\Below w.heap.size w wr) (fun _ i k _=>a.length-(intOf i).toNat+(b.length-(intOf k).toNat))
 case atStart=>exact⟨[],0,0,OwnP.nil,rfl,rfl,Nat.zero_le _,Nat.zero_le _,by unfold Hid;simp,by simp,Below.refl _ _⟩
 case round=>
  obtain⟨out,p,q,hown,rfl,rfl,hp,hq,hrel,hol,hBwr⟩:=hrel
  have hOwr:=hid hown
  clear hown
  by_cases hlp:p<a.length
  ·obtain⟨x,hx⟩:∃ x,a[p]?=some x:=⟨_,List.getElem?_eq_getElem hlp⟩
   obtain⟨ba,oa,rfl,hba,hca'⟩:=a3 (by rintro rfl;simp at hlp)
   obtain⟨cs,⟨rfl,hokx⟩,_,hu⟩:=hca' p _ hx
   have HXC:Hid (∀ w',Below w.heap.size w w'->w'.cell? ⟨ba,oa+p*4,none⟩=some (.int .i64 x.dc)/\w'.cell? ⟨ba,oa+p*4+1,none⟩=some (.int .i64 x.n)/\w'.cell? ⟨ba,oa+p*4+2,none⟩=some (.string x.s)/\w'.cell? ⟨ba,oa+p*4+3,none⟩=some (.int .i64 x.v)):=fun w' hb'=>
    ⟨(hb'.cell hba).trans (hu 0 _ rfl),(hb'.cell hba).trans (hu 1 _ rfl),(hb'.cell hba).trans (hu 2 _ rfl),(hb'.cell hba).trans (hu 3 _ rfl)⟩
   have HXE:Hid (EnE x [.int .i64 x.dc,.int .i64 x.n,.string x.s,.int .i64 x.v]):=⟨rfl,hokx⟩
   have HPX:=hid (QQ hx)
   have t1:decide ((p:Int)<(a.length:Int))=true:=by simp;omega
   have t2:((p:Int)==(a.length:Int))=false:=by simp;omega
   clear hu hca' hx a3 hokx
   by_cases hlq:q<b.length
   ·obtain⟨y,hy⟩:∃ y,b[q]?=some y:=⟨_,List.getElem?_eq_getElem hlq⟩
    obtain⟨bb,ob,rfl,hbb,hcb'⟩:=b3 (by rintro rfl;simp at hlq)
    obtain⟨cs,⟨rfl,hoky⟩,_,hu⟩:=hcb' q _ hy
    have HYC:Hid (∀ w',Below w.heap.size w w'->w'.cell? ⟨bb,ob+q*4,none⟩=some (.int .i64 y.dc)/\w'.cell? ⟨bb,ob+q*4+1,none⟩=some (.int .i64 y.n)/\w'.cell? ⟨bb,ob+q*4+2,none⟩=some (.string y.s)/\w'.cell? ⟨bb,ob+q*4+3,none⟩=some (.int .i64 y.v)):=fun w' hb'=>
     ⟨(hb'.cell hbb).trans (hu 0 _ rfl),(hb'.cell hbb).trans (hu 1 _ rfl),(hb'.cell hbb).trans (hu 2 _ rfl),(hb'.cell hbb).trans (hu 3 _ rfl)⟩
    have HYE:Hid (EnE y [.int .i64 y.dc,.int .i64 y.n,.string y.s,.int .i64 y.v]):=⟨rfl,hoky⟩
    have HPY:=hid (QQ hy)
    have t3:decide ((q:Int)<(b.length:Int))=true:=by simp;omega
    have t4:((q:Int)==(b.length:Int))=false:=by simp;omega
    clear hu hcb' hy b3 hoky
    obtain⟨x0,x1,_,_⟩:=HXC.out wr hBwr
    have fx0:=Qf (B:=wr.heap.size) x0 (by have:=hBwr.size;omega)
    have fx1:=Qf (B:=wr.heap.size) x1 (by have:=hBwr.size;omega)
    clear x0 x1
    obtain⟨y0,y1,_,_⟩:=HYC.out wr hBwr
    have fy0:=Qf (B:=wr.heap.size) y0 (by have:=hBwr.size;omega)
    have fy1:=Qf (B:=wr.heap.size) y1 (by have:=hBwr.size;omega)
    clear y0 y1
    have hE:entL ca cb (x :: a.drop (p+1)) (y :: b.drop (q+1))=if x.dot.lt y.dot then stayL cb x++entL ca cb (a.drop (p+1)) (y :: b.drop (q+1)) else if y.dot.lt x.dot then stayL ca y++entL ca cb (x :: a.drop (p+1)) (b.drop (q+1)) else grtE x y :: entL ca cb (a.drop (p+1)) (b.drop (q+1)):=by rw[entL]
    have c1:decide (Dt.cmp ⟨x.dc,x.n⟩ ⟨y.dc,y.n⟩<0)=x.dot.lt y.dot:=VY _ _
    have c2:decide (Dt.cmp ⟨y.dc,y.n⟩ ⟨x.dc,x.n⟩<0)=y.dot.lt x.dot:=VY _ _
    rcases hl1:x.dot.lt y.dot
    ·rw[hl1]at c1 hE
     rcases hl2:y.dot.lt x.dot
     ·rw[hl2]at c2 hE
      have HREL:Hid (out++(grtE x y :: entL ca cb (a.drop (p+1)) (b.drop (q+1)))=entL ca cb a b):=by
       have h1:=hrel.out;rw[HPX.out,HPY.out,hE]at h1;exact h1
      clear hE hl1 hl2 hrel
      go_upto_region 7 with (fail)
      refine Qc wr.heap.size (by kernel_rfl) (by kernel_rfl) ?_
      repeat (go_big_quiet_step ((go_at_call 195;exact Calls.far_of (Nat.le_refl _) (QC ⟨_,_⟩ ⟨_,_⟩ _))))
      refine wpQuiet_nil ?_
      intro wp hbwp
      have hBwp:Below w.heap.size w wp:=hBwr.trans (hbwp.mono (by have:=hBwr.size;omega))
      have hOwp:=hid (hOwr.out.grow hbwp)
      clear hbwp
      go_wp2_with fail
      clear fx0 fx1 fy0 fy1
      obtain⟨x0,x1,_,_⟩:=HXC.out wp hBwp
      have fx0:=Qf (B:=wp.heap.size) x0 (by have:=hBwp.size;omega)
      have fx1:=Qf (B:=wp.heap.size) x1 (by have:=hBwp.size;omega)
      clear x0 x1
      obtain⟨y0,y1,_,_⟩:=HYC.out wp hBwp
      have fy0:=Qf (B:=wp.heap.size) y0 (by have:=hBwp.size;omega)
      have fy1:=Qf (B:=wp.heap.size) y1 (by have:=hBwp.size;omega)
      clear y0 y1
      go_upto_region 11 with (fail)
      refine Qc wp.heap.size (by kernel_rfl) (by kernel_rfl) ?_
      repeat (go_big_quiet_step ((go_at_call 195;exact Calls.far_of (Nat.le_refl _) (QC ⟨_,_⟩ ⟨_,_⟩ _))))
      refine wpQuiet_nil ?_
      intro wq hbwq
      have hBwq:Below w.heap.size w wq:=hBwp.trans (hbwq.mono (by have:=hBwp.size;omega))
      have hOwq:=hid (hOwp.out.grow hbwq)
      clear hbwq
      go_wp2_with fail
      clear fx0 fx1 fy0 fy1
      obtain⟨z,hz⟩:∃ z,z=grtE x y:=⟨_,rfl⟩
      have HZQ:=hid hz
      have HZE:Hid (EnE z [.int .i64 z.dc,.int .i64 z.n,.string z.s,.int .i64 z.v]):=by
       rw[hz];unfold grtE;split
       ·exact HYE.out
       ·exact HXE.out
      have HXY:Hid (∀ w',Below w.heap.size w w'->w'.cell? ⟨ba,oa+p*4,none⟩=some (.int .i64 x.dc)/\w'.cell? ⟨ba,oa+p*4+1,none⟩=some (.int .i64 x.n)/\w'.cell? ⟨ba,oa+p*4+2,none⟩=some (.string x.s)/\w'.cell? ⟨ba,oa+p*4+3,none⟩=some (.int .i64 x.v)/\w'.cell? ⟨bb,ob+q*4,none⟩=some (.int .i64 y.dc)/\w'.cell? ⟨bb,ob+q*4+1,none⟩=some (.int .i64 y.n)/\w'.cell? ⟨bb,ob+q*4+2,none⟩=some (.string y.s)/\w'.cell? ⟨bb,ob+q*4+3,none⟩=some (.int .i64 y.v)):=fun w' hb'=>by
       obtain⟨x0,x1,x2,x3⟩:=HXC.out w' hb'
       obtain⟨y0,y1,y2,y3⟩:=HYC.out w' hb'
       exact⟨x0,x1,x2,x3,y0,y1,y2,y3⟩
      have HL:Hid (out.length + [z].length<=Few):=by unfold Hid Few;simp;omega
      have HRX:Hid (out++[z]++entL ca cb (a.drop (p+1)) (b.drop (q+1))=entL ca cb a b):=by
       unfold Hid;rw[←HREL.out,hz,List.append_assoc];rfl
      have hsq:=hBwq.size
      obtain⟨x0,x1,x2,x3⟩:=HXC.out wq hBwq
      obtain⟨y0,y1,y2,y3⟩:=HYC.out wq hBwq
      clear hz HREL
      go_upto_region 4 with (fail)
      go_region_held3 (fun w'=>w'.cell? ⟨ba,oa+p*4,none⟩=some (.int .i64 x.dc)/\w'.cell? ⟨ba,oa+p*4+1,none⟩=some (.int .i64 x.n)/\w'.cell? ⟨ba,oa+p*4+2,none⟩=some (.string x.s)/\w'.cell? ⟨ba,oa+p*4+3,none⟩=some (.int .i64 x.v)/\w'.cell? ⟨bb,ob+q*4,none⟩=some (.int .i64 y.dc)/\w'.cell? ⟨bb,ob+q*4+1,none⟩=some (.int .i64 y.n)/\w'.cell? ⟨bb,ob+q*4+2,none⟩=some (.string y.s)/\w'.cell? ⟨bb,ob+q*4+3,none⟩=some (.int .i64 y.v))
       (first|go_keep|exact HXY.out _ hB2|exact HXY.out _ hB1)
       (first
           |(go_at_call 196;go_loud ((refine (JY x y _).mono ?_);rw[←HZQ.out];rintro e w1 ⟨rfl,hb⟩;have hb1:Below wq.heap.size wq w1:=(Below.trans (by go_grown) (hb.mono (by simp)));have hB1:Below w.heap.size w w1:=hBwq.trans (hb1.mono hsq);have hown1:=hOwq.out.grow hb1))
           |(go_loud (refine ZC rfl (.tmp 22) (.tmp 32) _ rfl Yu (by decide) (by decide) (fun _ _ h=>h.one) rfl (hown1.alloc _) rfl (SlP.one (x:=z) HZE.out rfl _ rfl) HL.out (by rw[World.size_alloc];have:=hB1.size;omega) ?_);intro v2 w2 hown2 hb2 hg2;have hB2:Below w.heap.size w w2:=(hB1.alloc hB1.size _).trans hb2))
      all_goals
       go_wp2_with fail
       go_roundw
       case rel=>exact⟨out++[z],p+1,q+1,hown2,by go_num,by go_num,by omega,by omega,HRX.out,by simp;omega,hB2⟩
       case measure=>simp[intOf];omega
     ·rw[hl2]at c2 hE
      have HREL:Hid (out++(stayL ca y++entL ca cb (a.drop p) (b.drop (q+1)))=entL ca cb a b):=by
       have h1:=hrel.out;rw[HPX.out,HPY.out,hE]at h1;rw[HPX.out];exact h1
      clear hE hl1 hl2 hrel
      go_upto_region 7 with (fail)
      refine Qc wr.heap.size (by kernel_rfl) (by kernel_rfl) ?_
      repeat (go_big_quiet_step ((go_at_call 195;exact Calls.far_of (Nat.le_refl _) (QC ⟨_,_⟩ ⟨_,_⟩ _))))
      refine wpQuiet_nil ?_
      intro wp hbwp
      have hBwp:Below w.heap.size w wp:=hBwr.trans (hbwp.mono (by have:=hBwr.size;omega))
      have hOwp:=hid (hOwr.out.grow hbwp)
      clear hbwp
      go_wp2_with fail
      clear fx0 fx1 fy0 fy1
      obtain⟨x0,x1,_,_⟩:=HXC.out wp hBwp
      have fx0:=Qf (B:=wp.heap.size) x0 (by have:=hBwp.size;omega)
      have fx1:=Qf (B:=wp.heap.size) x1 (by have:=hBwp.size;omega)
      clear x0 x1
      obtain⟨y0,y1,_,_⟩:=HYC.out wp hBwp
      have fy0:=Qf (B:=wp.heap.size) y0 (by have:=hBwp.size;omega)
      have fy1:=Qf (B:=wp.heap.size) y1 (by have:=hBwp.size;omega)
      clear y0 y1
      go_upto_region 11 with (fail)
      refine Qc wp.heap.size (by kernel_rfl) (by kernel_rfl) ?_
      repeat (go_big_quiet_step ((go_at_call 195;exact Calls.far_of (Nat.le_refl _) (QC ⟨_,_⟩ ⟨_,_⟩ _))))
      refine wpQuiet_nil ?_
      intro wq hbwq
      have hBwq:Below w.heap.size w wq:=hBwp.trans (hbwq.mono (by have:=hBwp.size;omega))
      have hOwq:=hid (hOwp.out.grow hbwq)
      clear hbwq
      clear fx0 fx1 fy0 fy1
      obtain⟨y0,y1,y2,y3⟩:=HYC.out wq hBwq
      go_wp2_with fail
      refine (Z2 ca ⟨y.dc,y.n⟩ _ _ (HCA.out _ hBwq) hN1).mono ?_
      rintro e w1 ⟨rfl,hb1⟩
      have hBw1:Below w.heap.size w w1:=hBwq.trans (hb1.mono (by have:=hBwq.size;omega))
      have hown1:=hOwq.out.grow hb1
      clear y0 y1 y2 y3 hb1
      obtain⟨y0,y1,y2,y3⟩:=HYC.out w1 hBw1
      cases hh:cHas ca ⟨y.dc,y.n⟩
      ·have HRX:Hid (out++[y]++entL ca cb (a.drop p) (b.drop (q+1))=entL ca cb a b):=by
        have h1:=HREL.out;rw[show stayL ca y=[y] by (unfold stayL;rw[show cHas ca y.dot=false from hh];rfl)]at h1
        unfold Hid;rw[←h1,List.append_assoc]
       have HL:Hid (out.length + [y].length<=Few):=by unfold Hid Few;simp;omega
       clear hh
       go_wp2_with (at_builtin;go_loud ((with_reducible refine Qj rfl (.tmp 107) (.tmp 112) _ rfl Yu (by decide) (by decide) (fun _ _ h=>h.one) rfl (hown1.alloc _) rfl (SlP.one (x:=y) HYE.out rfl _ rfl) HL.out (by rw[World.size_alloc];have:=hBw1.size;omega) ?_);intro v1 w2 hown2 hb2 _))
       go_roundw
       case rel=>exact⟨out++[y],p,q+1,hown2,rfl,by go_num,hp,by omega,HRX.out,by simp;omega,(hBw1.alloc hBw1.size _).trans hb2⟩
       case measure=>simp[intOf];omega
      ·have HRX:Hid (out++entL ca cb (a.drop p) (b.drop (q+1))=entL ca cb a b):=by
        have h1:=HREL.out;rw[show stayL ca y=[] by (unfold stayL;rw[show cHas ca y.dot=true from hh];rfl),List.nil_append]at h1
        exact h1
       clear hh
       go_wp2_with fail
       go_roundw
       case rel=>exact⟨out,p,q+1,hown1,rfl,by go_num,hp,by omega,HRX.out,by omega,hBw1⟩
       case measure=>simp[intOf];omega
    ·rw[hl1]at c1 hE
     have HREL:Hid (out++(stayL cb x++entL ca cb (a.drop (p+1)) (b.drop q))=entL ca cb a b):=by
      have h1:=hrel.out;rw[HPX.out,HPY.out,hE]at h1;rw[HPY.out];exact h1
     clear hE hl1 hrel c2
     go_upto_region 7 with (fail)
     refine Qc wr.heap.size (by kernel_rfl) (by kernel_rfl) ?_
     repeat (go_big_quiet_step ((go_at_call 195;exact Calls.far_of (Nat.le_refl _) (QC ⟨_,_⟩ ⟨_,_⟩ _))))
     refine wpQuiet_nil ?_
     intro wp hbwp
     have hBwp:Below w.heap.size w wp:=hBwr.trans (hbwp.mono (by have:=hBwr.size;omega))
     have hOwp:=hid (hOwr.out.grow hbwp)
     clear hbwp
     clear fx0 fx1 fy0 fy1
     obtain⟨x0,x1,x2,x3⟩:=HXC.out wp hBwp
     go_wp2_with fail
     refine (Z2 cb ⟨x.dc,x.n⟩ _ _ (HCB.out _ hBwp) hN2).mono ?_
     rintro e w1 ⟨rfl,hb1⟩
     have hBw1:Below w.heap.size w w1:=hBwp.trans (hb1.mono (by have:=hBwp.size;omega))
     have hown1:=hOwp.out.grow hb1
     clear x0 x1 x2 x3 hb1
     obtain⟨x0,x1,x2,x3⟩:=HXC.out w1 hBw1
     cases hh:cHas cb ⟨x.dc,x.n⟩
     ·have HRX:Hid (out++[x]++entL ca cb (a.drop (p+1)) (b.drop q)=entL ca cb a b):=by
       have h1:=HREL.out;rw[show stayL cb x=[x] by (unfold stayL;rw[show cHas cb x.dot=false from hh];rfl)]at h1
       unfold Hid;rw[←h1,List.append_assoc]
      have HL:Hid (out.length + [x].length<=Few):=by unfold Hid Few;simp;omega
      clear hh
      go_wp2_with (at_builtin;go_loud ((with_reducible refine Qj rfl (.tmp 71) (.tmp 76) _ rfl Yu (by decide) (by decide) (fun _ _ h=>h.one) rfl (hown1.alloc _) rfl (SlP.one (x:=x) HXE.out rfl _ rfl) HL.out (by rw[World.size_alloc];have:=hBw1.size;omega) ?_);intro v1 w2 hown2 hb2 _))
      go_roundw
      case rel=>exact⟨out++[x],p+1,q,hown2,by go_num,rfl,by omega,hq,HRX.out,by simp;omega,(hBw1.alloc hBw1.size _).trans hb2⟩
      case measure=>simp[intOf];omega
     ·have HRX:Hid (out++entL ca cb (a.drop (p+1)) (b.drop q)=entL ca cb a b):=by
       have h1:=HREL.out;rw[show stayL cb x=[] by (unfold stayL;rw[show cHas cb x.dot=true from hh];rfl),List.nil_append]at h1
       exact h1
      clear hh
      go_wp2_with fail
      go_roundw
      case rel=>exact⟨out,p+1,q,hown1,by go_num,rfl,by omega,hq,HRX.out,by omega,hBw1⟩
      case measure=>simp[intOf];omega
   ·have hqe:q=b.length:=by omega
    have HREL:Hid (out++(stayL cb x++entL ca cb (a.drop (p+1)) (b.drop q))=entL ca cb a b):=by
     have h1:=hrel.out;rw[HPX.out,hqe,List.drop_of_length_le (Nat.le_refl _),entL]at h1;rw[hqe,List.drop_of_length_le (Nat.le_refl _)];exact h1
    have t3:decide ((q:Int)<(b.length:Int))=false:=by simp;omega
    have t4:((q:Int)==(b.length:Int))=true:=by simp;omega
    clear hrel hqe b3
    go_upto_region 7 with (fail)
    refine Qc wr.heap.size (by kernel_rfl) (by kernel_rfl) ?_
    repeat (go_big_quiet_step ((go_at_call 195;exact Calls.far_of (Nat.le_refl _) (QC ⟨_,_⟩ ⟨_,_⟩ _))))
    refine wpQuiet_nil ?_
    intro wp hbwp
    have hBwp:Below w.heap.size w wp:=hBwr.trans (hbwp.mono (by have:=hBwr.size;omega))
    have hOwp:=hid (hOwr.out.grow hbwp)
    clear hbwp
    obtain⟨x0,x1,x2,x3⟩:=HXC.out wp hBwp
    go_wp2_with fail
    refine (Z2 cb ⟨x.dc,x.n⟩ _ _ (HCB.out _ hBwp) hN2).mono ?_
    rintro e w1 ⟨rfl,hb1⟩
    have hBw1:Below w.heap.size w w1:=hBwp.trans (hb1.mono (by have:=hBwp.size;omega))
    have hown1:=hOwp.out.grow hb1
    clear x0 x1 x2 x3 hb1
    obtain⟨x0,x1,x2,x3⟩:=HXC.out w1 hBw1
    cases hh:cHas cb ⟨x.dc,x.n⟩
    ·have HRX:Hid (out++[x]++entL ca cb (a.drop (p+1)) (b.drop q)=entL ca cb a b):=by
      have h1:=HREL.out;rw[show stayL cb x=[x] by (unfold stayL;rw[show cHas cb x.dot=false from hh];rfl)]at h1
      unfold Hid;rw[←h1,List.append_assoc]
     have HL:Hid (out.length + [x].length<=Few):=by unfold Hid Few;simp;omega
     clear hh
     go_wp2_with (at_builtin;go_loud ((with_reducible refine Qj rfl (.tmp 71) (.tmp 76) _ rfl Yu (by decide) (by decide) (fun _ _ h=>h.one) rfl (hown1.alloc _) rfl (SlP.one (x:=x) HXE.out rfl _ rfl) HL.out (by rw[World.size_alloc];have:=hBw1.size;omega) ?_);intro v1 w2 hown2 hb2 _))
     go_roundw
     case rel=>exact⟨out++[x],p+1,q,hown2,by go_num,rfl,by omega,hq,HRX.out,by simp;omega,(hBw1.alloc hBw1.size _).trans hb2⟩
     case measure=>simp[intOf];omega
    ·have HRX:Hid (out++entL ca cb (a.drop (p+1)) (b.drop q)=entL ca cb a b):=by
      have h1:=HREL.out;rw[show stayL cb x=[] by (unfold stayL;rw[show cHas cb x.dot=true from hh];rfl),List.nil_append]at h1
      exact h1
     clear hh
     go_wp2_with fail
     go_roundw
     case rel=>exact⟨out,p+1,q,hown1,by go_num,rfl,by omega,hq,HRX.out,by omega,hBw1⟩
     case measure=>simp[intOf];omega
  ·have hpe:p=a.length:=by omega
   have t1:decide ((p:Int)<(a.length:Int))=false:=by simp;omega
   have t2:((p:Int)==(a.length:Int))=true:=by simp;omega
   by_cases hlq:q<b.length
   ·obtain⟨y,hy⟩:∃ y,b[q]?=some y:=⟨_,List.getElem?_eq_getElem hlq⟩
    obtain⟨bb,ob,rfl,hbb,hcb'⟩:=b3 (by rintro rfl;simp at hlq)
    obtain⟨cs,⟨rfl,hoky⟩,_,hu⟩:=hcb' q _ hy
    have HYC:Hid (∀ w',Below w.heap.size w w'->w'.cell? ⟨bb,ob+q*4,none⟩=some (.int .i64 y.dc)/\w'.cell? ⟨bb,ob+q*4+1,none⟩=some (.int .i64 y.n)/\w'.cell? ⟨bb,ob+q*4+2,none⟩=some (.string y.s)/\w'.cell? ⟨bb,ob+q*4+3,none⟩=some (.int .i64 y.v)):=fun w' hb'=>
     ⟨(hb'.cell hbb).trans (hu 0 _ rfl),(hb'.cell hbb).trans (hu 1 _ rfl),(hb'.cell hbb).trans (hu 2 _ rfl),(hb'.cell hbb).trans (hu 3 _ rfl)⟩
    have HYE:Hid (EnE y [.int .i64 y.dc,.int .i64 y.n,.string y.s,.int .i64 y.v]):=⟨rfl,hoky⟩
    have HPY:=hid (QQ hy)
    have t3:decide ((q:Int)<(b.length:Int))=true:=by simp;omega
    have t4:((q:Int)==(b.length:Int))=false:=by simp;omega
    have HREL:Hid (out++(stayL ca y++entL ca cb (a.drop p) (b.drop (q+1)))=entL ca cb a b):=by
     have h1:=hrel.out;rw[HPY.out,hpe,List.drop_of_length_le (Nat.le_refl _),entL]at h1;rw[hpe,List.drop_of_length_le (Nat.le_refl _)];exact h1
    clear hu hcb' hy b3 a3 hoky hrel hpe
    go_upto_region 7 with (fail)
    refine Qc wr.heap.size (by kernel_rfl) (by kernel_rfl) ?_
    repeat (go_big_quiet_step ((go_at_call 195;exact Calls.far_of (Nat.le_refl _) (QC ⟨_,_⟩ ⟨_,_⟩ _))))
    refine wpQuiet_nil ?_
    intro wp hbwp
    have hBwp:Below w.heap.size w wp:=hBwr.trans (hbwp.mono (by have:=hBwr.size;omega))
    have hOwp:=hid (hOwr.out.grow hbwp)
    clear hbwp
    go_wp2_with fail
    go_upto_region 11 with (fail)
    refine Qc wp.heap.size (by kernel_rfl) (by kernel_rfl) ?_
    repeat (go_big_quiet_step ((go_at_call 195;exact Calls.far_of (Nat.le_refl _) (QC ⟨_,_⟩ ⟨_,_⟩ _))))
    refine wpQuiet_nil ?_
    intro wq hbwq
    have hBwq:Below w.heap.size w wq:=hBwp.trans (hbwq.mono (by have:=hBwp.size;omega))
    have hOwq:=hid (hOwp.out.grow hbwq)
    clear hbwq
    obtain⟨y0,y1,y2,y3⟩:=HYC.out wq hBwq
    go_wp2_with fail
    refine (Z2 ca ⟨y.dc,y.n⟩ _ _ (HCA.out _ hBwq) hN1).mono ?_
    rintro e w1 ⟨rfl,hb1⟩
    have hBw1:Below w.heap.size w w1:=hBwq.trans (hb1.mono (by have:=hBwq.size;omega))
    have hown1:=hOwq.out.grow hb1
    clear y0 y1 y2 y3 hb1
    obtain⟨y0,y1,y2,y3⟩:=HYC.out w1 hBw1
    cases hh:cHas ca ⟨y.dc,y.n⟩
    ·have HRX:Hid (out++[y]++entL ca cb (a.drop p) (b.drop (q+1))=entL ca cb a b):=by
      have h1:=HREL.out;rw[show stayL ca y=[y] by (unfold stayL;rw[show cHas ca y.dot=false from hh];rfl)]at h1
      unfold Hid;rw[←h1,List.append_assoc]
     have HL:Hid (out.length + [y].length<=Few):=by unfold Hid Few;simp;omega
     clear hh
     go_wp2_with (at_builtin;go_loud ((with_reducible refine Qj rfl (.tmp 107) (.tmp 112) _ rfl Yu (by decide) (by decide) (fun _ _ h=>h.one) rfl (hown1.alloc _) rfl (SlP.one (x:=y) HYE.out rfl _ rfl) HL.out (by rw[World.size_alloc];have:=hBw1.size;omega) ?_);intro v1 w2 hown2 hb2 _))
     go_roundw
     case rel=>exact⟨out++[y],p,q+1,hown2,rfl,by go_num,hp,by omega,HRX.out,by simp;omega,(hBw1.alloc hBw1.size _).trans hb2⟩
     case measure=>simp[intOf];omega
    ·have HRX:Hid (out++entL ca cb (a.drop p) (b.drop (q+1))=entL ca cb a b):=by
      have h1:=HREL.out;rw[show stayL ca y=[] by (unfold stayL;rw[show cHas ca y.dot=true from hh];rfl),List.nil_append]at h1
      exact h1
     clear hh
     go_wp2_with fail
     go_roundw
     case rel=>exact⟨out,p,q+1,hown1,rfl,by go_num,hp,by omega,HRX.out,by omega,hBw1⟩
     case measure=>simp[intOf];omega
   ·have hqe:q=b.length:=by omega
    have t3:decide ((q:Int)<(b.length:Int))=false:=by simp;omega
    have HR:Hid (out=entL ca cb a b):=by
     have h1:=hrel.out;rw[hpe,hqe,List.drop_of_length_le (Nat.le_refl _),List.drop_of_length_le (Nat.le_refl _),entL,List.append_nil]at h1;exact h1
    clear hrel hpe hqe a3 b3
    go_wp2_with fail
    go_ret
    exact⟨_,rfl,by rw[←HR.out];exact hOwr.out,hBwr⟩
theorem Xo (x s:ByteArray)(A A':Option Addr)(n c n' c':Nat)(w:World) :
  Calls Tryz.prog 199 #[.agg #[.string x,.slice A n c,.slice A' n' c'],.string s] w fun e w'=>e=.returned (.int .i64 (cmpS x s))/\Below w.heap.size w w':=by
 go_enter Tryz.func199,Tryz.ntmps199
 go_wp2_with fail
 refine (Ja x s _).mono ?_
 rintro e w1 ⟨rfl,rfl⟩
 go_wp2_with fail
 go_ret
 exact⟨rfl,by go_grown⟩
theorem Yb:∀ args W,(callFunc 199 args).run Tryz.prog W=.ok (.enter 199 args) W:=enters_of Tryz.func199 (by kernel_rfl) rfl
theorem qYo (ks:List Kd)(s:ByteArray)(v:Value)(w:World)(h:SlP w w.heap.size 3 (KdE w w.heap.size) v ks)(hS:ks.Pairwise fun a b=>ltS a.1 b.1=true) :
  Calls Tryz.prog 198 #[v,.string s,.func (.func 199) #[] #[]] w fun e w'=>
   ((∃ (i:Nat) (t:Tr),e=.returned (.tuple #[.int .i64 i,.bool true])/\ks[i]?=some (s,t))∨(∃ i:Int,e=.returned (.tuple #[.int .i64 i,.bool false])/\∀ t,(s,t)∉ks))/\Below w.heap.size w w':=by
 obtain⟨A,n,rfl,b1,b2,b3⟩:=h
 unfold Big at b2
 go_enter Tryz.func198,Tryz.ntmps198
 go_wp2_with fail
 go_loopw [9,10] (fun a b wr=>∃ lo hi:Nat,lo<=hi/\hi<=ks.length/\a=.int .i64 lo/\b=.int .i64 hi/\Hid (∀ (j:Nat) y,j<lo->ks[j]?=some y->ltS y.1 s=true)/\Hid (∀ (j:Nat) y,hi<=j->ks[j]?=some y->ltS y.1 s=false)/\Below w.heap.size w wr) (fun a b _=>(intOf b).toNat-(intOf a).toNat)
 case atStart=>exact⟨0,ks.length,Nat.zero_le _,Nat.le_refl _,rfl,rfl,fun j y hj=>absurd hj (Nat.not_lt_zero _),fun j y hj hy=>by have:=(List.getElem?_eq_some_iff.1 hy).1;omega,Below.refl _ _⟩
 case round=>
  obtain⟨lo,hi,hlh,hhn,rfl,rfl,HLO,HHI,hb⟩:=hrel
  have hsz:=hb.size
  by_cases hlt:lo<hi
  ·obtain⟨m,hm,hm1,hm2⟩:∃ m:Nat,((lo:Int)+(hi:Int)) / 2=(m:Int)/\lo<=m/\m<hi:=⟨(lo+hi) / 2,by omega,by omega,by omega⟩
   obtain⟨x,hx⟩:∃ x,ks[m]?=some x:=⟨_,List.getElem?_eq_getElem (by omega)⟩
   obtain⟨b,off,rfl,hbB,hc⟩:=b3 (by rintro rfl;simp at hhn;omega)
   obtain⟨cs,⟨ve,vk,rfl,hok,hrd⟩,_,hu⟩:=hc m _ hx
   obtain⟨A3,n3,A4,n4,rfl,rfl⟩:=Qk hrd
   have e0:wr.cell? ⟨b,off+m*3,none⟩=some (.string x.1):=(hb.cell hbB).trans (hu 0 _ rfl)
   have e1:wr.cell? ⟨b,off+m*3+1,none⟩=some (.slice A3 x.2.es.length n3):=(hb.cell hbB).trans (hu 1 _ rfl)
   have e2:wr.cell? ⟨b,off+m*3+2,none⟩=some (.slice A4 x.2.ks.length n4):=(hb.cell hbB).trans (hu 2 _ rfl)
   have hcall:=Xo x.1 s A3 A4 x.2.es.length n3 x.2.ks.length n4 wr
   have eg:=Yb
   have HX:=hid hx
   have HLT:Hid (∀ (j:Nat) y,j<m->ks[j]?=some y->ltS y.1 x.1=true):=fun j y hj hy=>by
    obtain⟨h1,h2⟩:=List.getElem?_eq_some_iff.1 hy
    obtain⟨h3,h4⟩:=List.getElem?_eq_some_iff.1 hx
    rw[List.pairwise_iff_getElem]at hS
    have:=hS j m h1 h3 hj
    rw[h2,h4]at this;exact this
   have HGT:Hid (∀ (j:Nat) y,m<j->ks[j]?=some y->ltS x.1 y.1=true):=fun j y hj hy=>by
    obtain⟨h1,h2⟩:=List.getElem?_eq_some_iff.1 hy
    obtain⟨h3,h4⟩:=List.getElem?_eq_some_iff.1 hx
    rw[List.pairwise_iff_getElem]at hS
    have:=hS m j h3 h1 hj
    rw[h2,h4]at this;exact this
   clear hu hc b3 hx hrd hS
   rcases hq:ltS x.1 s
   ·have HQ:=hid hq
    have hcv:decide (cmpS x.1 s<0)=false:=by
     unfold cmpS;rw[hq];simp only[Bool.false_eq_true,if_false];split<;>decide
    clear hq
    have HN:Hid (∀ (j:Nat) y,m<=j->ks[j]?=some y->ltS y.1 s=false):=fun j y hj hy=>by
     by_cases hjm:j=m
     ·subst hjm;have h2:=HX.out;rw[hy]at h2;cases h2;exact HQ.out
     ·cases hys:ltS y.1 s
      ·rfl
      ·have h3:=QI (HGT.out j y (by omega) hy) hys
       rw[HQ.out]at h3;cases h3
    go_wp2_with (go_at_fn 199;refine hcall.mono ?_;rintro e w1 ⟨rfl,hb1⟩)
    go_roundw
    case rel=>exact⟨lo,m,hm1,by omega,rfl,by go_num,HLO.out,HN.out,hb.trans (hb1.mono hsz)⟩
    case measure=>simp[intOf];omega
   ·have HQ:=hid hq
    have hcv:decide (cmpS x.1 s<0)=true:=by unfold cmpS;rw[hq,if_pos rfl];decide
    clear hq
    have HN:Hid (∀ (j:Nat) y,j<m+1->ks[j]?=some y->ltS y.1 s=true):=fun j y hj hy=>by
     by_cases hjm:j=m
     ·subst hjm;have h2:=HX.out;rw[hy]at h2;cases h2;exact HQ.out
     ·exact QI (HLT.out j y (by omega) hy) HQ.out
    go_wp2_with (go_at_fn 199;refine hcall.mono ?_;rintro e w1 ⟨rfl,hb1⟩)
    go_roundw
    case rel=>exact⟨m+1,hi,by omega,hhn,by go_num,rfl,HN.out,HHI.out,hb.trans (hb1.mono hsz)⟩
    case measure=>simp[intOf];omega
  ·obtain rfl:lo=hi:=by omega
   by_cases hn:lo<ks.length
   ·obtain⟨x,hx⟩:∃ x,ks[lo]?=some x:=⟨_,List.getElem?_eq_getElem hn⟩
    obtain⟨b,off,rfl,hbB,hc⟩:=b3 (by rintro rfl;simp at hn)
    obtain⟨cs,⟨ve,vk,rfl,hok,hrd⟩,_,hu⟩:=hc lo _ hx
    obtain⟨A3,n3,A4,n4,rfl,rfl⟩:=Qk hrd
    have e0:wr.cell? ⟨b,off+lo*3,none⟩=some (.string x.1):=(hb.cell hbB).trans (hu 0 _ rfl)
    have e1:wr.cell? ⟨b,off+lo*3+1,none⟩=some (.slice A3 x.2.es.length n3):=(hb.cell hbB).trans (hu 1 _ rfl)
    have e2:wr.cell? ⟨b,off+lo*3+2,none⟩=some (.slice A4 x.2.ks.length n4):=(hb.cell hbB).trans (hu 2 _ rfl)
    have hcall:=Xo x.1 s A3 A4 x.2.es.length n3 x.2.ks.length n4 wr
    have eg:=Yb
    have h0:=HHI.out lo x (Nat.le_refl _) hx
    have HX:=hid hx
    have HGT:Hid (∀ (j:Nat) y,lo<j->ks[j]?=some y->ltS x.1 y.1=true):=fun j y hj hy=>by
     obtain⟨h1,h2⟩:=List.getElem?_eq_some_iff.1 hy
     obtain⟨h3,h4⟩:=List.getElem?_eq_some_iff.1 hx
     rw[List.pairwise_iff_getElem]at hS
     have:=hS lo j h3 h1 hj
     rw[h2,h4]at this;exact this
    have H0:=hid h0
    clear hu hc b3 hx hrd hS
    rcases hq:ltS s x.1
    ·have HE:Hid (x.1=s):=ZZ h0 hq
     have hcv:(cmpS x.1 s==0)=true:=by unfold cmpS;rw[h0,hq];rfl
     clear h0 hq
     go_wp2_with (go_at_fn 199;refine hcall.mono ?_;rintro e w1 ⟨rfl,hb1⟩)
     go_ret2
     exact⟨.inl ⟨lo,x.2,rfl,by rw[HX.out,←HE.out]⟩,hb.trans (hb1.mono hsz)⟩
    ·have HQ:=hid hq
     have hcv:(cmpS x.1 s==0)=false:=by unfold cmpS;rw[h0,hq];rfl
     clear h0 hq
     go_wp2_with (go_at_fn 199;refine hcall.mono ?_;rintro e w1 ⟨rfl,hb1⟩)
     go_ret2
     refine⟨.inr ⟨lo,rfl,fun t ht=>?_⟩,hb.trans (hb1.mono hsz)⟩
     obtain⟨j,hj⟩:=List.getElem?_of_mem ht
     rcases Nat.lt_trichotomy j lo with h1|h1|h1
     ·have:=HLO.out j _ h1 hj;rw[Qz]at this;cases this
     ·subst h1;have h2:=HX.out;rw[hj]at h2;cases h2;have:=HQ.out;rw[Qz]at this;cases this
     ·have h2:=HGT.out j _ h1 hj;have h3:=H0.out;rw[h2]at h3;cases h3
   ·obtain rfl:lo=ks.length:=by omega
    clear b3 hS
    go_wp2_with fail
    go_ret2
    refine⟨.inr ⟨ks.length,rfl,fun t ht=>?_⟩,hb⟩
    obtain⟨j,hj⟩:=List.getElem?_of_mem ht
    have:=HLO.out j _ (List.getElem?_eq_some_iff.1 hj).1 hj;rw[Qz]at this;cases this
theorem XR {t:Tr}{w:World}{B:Nat}{ve vk:Value}(h:t.rd w B ve vk):SlP w B 3 (KdE w B) vk t.ks:=by
 obtain⟨es,ks⟩:=t;exact (QH.1 h).2
def RetS (w:World)(t:Tr)(e:Ending)(w':World):Prop:=
 ∃ ve vk,e=.returned (.agg #[ve,vk])/\t.rd w w.heap.size ve vk/\Below w.heap.size w w'
theorem KF (t:Tr)(s:ByteArray)(ve vk:Value)(w:World)(h:t.rd w w.heap.size ve vk)(ho:t.Ord) :
  Calls Tryz.prog 161 #[.agg #[ve,vk],.string s] w (RetS w (kidT t s)):=by
 have HD:=hid h
 have hS:t.ks.Pairwise fun a b=>ltS a.1 b.1=true:=by obtain⟨es,ks⟩:=t;exact (QV.1 ho).2.1
 have HO:=hid ho
 obtain⟨A3,n3,A4,n4,rfl,rfl⟩:=Qk h
 have hb0:Below w.heap.size w ((w.alloc (.cells #[.slice A3 t.es.length n3,.slice A4 t.ks.length n4] 25)).alloc (.cells #[.slice none 0 0,.slice none 0 0] 25)):=((Below.refl _ w).alloc (Nat.le_refl _) _).alloc (by simp) _
 have hkl:t.ks.length<=140737488355328:=by
  have h1:=HD.out;obtain⟨es,ks⟩:=t;obtain⟨_,_,_,_,h2,_⟩:=(QH.1 h1).2;exact h2
 clear h
 go_enter Tryz.func161,Tryz.ntmps161
 go_wp2_with fail
 refine (qYo t.ks s _ _ (XR (Qg hb0 hb0.size t _ _ HD.out)) hS).mono ?_
 rintro e w1 ⟨he,hb1⟩
 have hs1:=hb1.size
 simp only[World.size_alloc]at hs1
 have hB1:Below w.heap.size w w1:=hb0.trans (hb1.mono (by simp;omega))
 have g2:=(hb1.block w.heap.size (by simp;omega)).trans ((Qi (by simp)).trans (Qh (o:=.cells #[.slice A3 t.es.length n3,.slice A4 t.ks.length n4] 25) rfl))
 have g4:=(hb1.block (w.heap.size+1) (by simp)).trans (Qh (w:=w.alloc (.cells #[.slice A3 t.es.length n3,.slice A4 t.ks.length n4] 25)) (by simp))
 have HG4:=hid g4
 have c0:=Qa (i:=0) g2
 have c1:=Qa (i:=1) g2
 obtain⟨k0,k1,z0,z1⟩:=bz2 g4
 try simp only[List.getElem?_toArray,List.getElem?_cons_zero,List.getElem?_cons_succ]at c0 c1 k0 k1
 clear g2 g4 hS hb1
 rcases he with⟨i,u,rfl,hi⟩|⟨i,rfl,hn⟩
 ·have hil:i<t.ks.length:=(List.getElem?_eq_some_iff.1 hi).1
  have hKT:kidT t s=u:=Z9 HO.out (List.mem_of_getElem? hi)
  obtain⟨b',off',rfl,hbB',vAe,vne,vAk,vnk,HRV,q1,q2⟩:∃ b' off',A4=some ⟨b',off',none⟩/\b'<w.heap.size/\∃ vAe vne vAk vnk,Hid (u.rd w w.heap.size (.slice vAe u.es.length vne) (.slice vAk u.ks.length vnk))/\w1.cell? ⟨b',off'+i*3+1,none⟩=some (.slice vAe u.es.length vne)/\w1.cell? ⟨b',off'+i*3+2,none⟩=some (.slice vAk u.ks.length vnk):=by
   have h1:=HD.out
   obtain⟨es,ks⟩:=t
   obtain⟨Ak',ck',he,_,_,h3⟩:=(QH.1 h1).2
   cases he
   obtain⟨b',off',rfl,hbB',hc'⟩:=h3 (by rintro rfl;simp[Tr.ks]at hil)
   obtain⟨cs,⟨ve',vk',rfl,_,hrd'⟩,_,hu'⟩:=hc' i _ hi
   obtain⟨vAe,vne,vAk,vnk,rfl,rfl⟩:=Qk hrd'
   exact⟨b',off',rfl,hbB',vAe,vne,vAk,vnk,hrd',(hB1.cell (p:=⟨b',off'+i*3+1,none⟩) hbB').trans (hu' 1 _ rfl),(hB1.cell (p:=⟨b',off'+i*3+2,none⟩) hbB').trans (hu' 2 _ rfl)⟩
  have HKT:=hid hKT
  clear hi hKT
  go_wp2_with fail
  have hW0:=Qe (i:=1) (Qe (i:=0) HG4.out (.slice vAe u.es.length vne)) (.slice vAk u.ks.length vnk)
  have r0:=(Qa (i:=0) hW0).trans (show _=some (.slice vAe u.es.length vne) by simp)
  have r1:=(Qa (i:=1) hW0).trans (show _=some (.slice vAk u.ks.length vnk) by simp)
  refine bodyPost_ret (v:=.agg #[.slice vAe u.es.length vne,.slice vAk u.ks.length vnk]) (by simp[results,Tryz.results161,go_sem,r0,r1]) rfl ⟨_,_,rfl,(by rw[HKT.out];exact HRV.out),(hB1.setCell (by simp) _).setCell (by simp) _⟩
 ·have HKT:Hid (kidT t s=.mk [] []):=Ya hn
  go_wp2_with fail
  have hW0:=Qe (i:=1) (Qe (i:=0) HG4.out (.slice none 0 0)) (.slice none 0 0)
  have r0:=(Qa (i:=0) hW0).trans (show _=some (.slice none 0 0) by simp)
  have r1:=(Qa (i:=1) hW0).trans (show _=some (.slice none 0 0) by simp)
  refine bodyPost_ret (v:=.agg #[.slice none 0 0,.slice none 0 0]) (by simp[results,Tryz.results161,go_sem,r0,r1]) rfl ⟨_,_,rfl,(by rw[HKT.out];exact Ko),(hB1.setCell (by simp) _).setCell (by simp) _⟩
end Go.Proofs.YtidebdbjekijkaaGreat
