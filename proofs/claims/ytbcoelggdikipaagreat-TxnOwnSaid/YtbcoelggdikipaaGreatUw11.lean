/- What the laws need. No condition but those that each lemma states. -/
import Derived.Test.YtbcoelggdikipaaGreatUw10
import Derived.Test.YtbcoelggdikipaaGreatUw9
import Derived.Test.YtbcoelggdikipaaGreatUw1
import Derived.Test.YtbcoelggdikipaaGreatUw6
import Derived.Test.YtbcoelggdikipaaGreatUw8
import Derived.Test.YtbcoelggdikipaaGreatUw2
import Derived.Test.YtbcoelggdikipaaGreatUw5
set_option maxRecDepth 100000
set_option maxHeartbeats 8000000
set_option linter.unusedSimpArgs false
namespace Go.Proofs.YtbcoelggdikipaaGreat
open Go.RowKit
structure Ev where
 d:Dt
 o:Opr
 seen:List Sp
 deriving DecidableEq,Inhabited
def visL (l:List Ev)(c:List Sp):List Ev:=l.filter fun x=>hasC c x.d
def undB (d:Dt)(o:Opr)(x:Ev):Bool:=!(hasC x.seen d&&undoB x.o o)
def Ze (l:List Ev)(e:Ev):Bool:=Qu e.o.act&&l.all (undB e.d e.o)
structure Lw (l:List Ev):Prop where
 op:∀ e∈l,OpOk e.o
 nd:(l.map (·.d)).Nodup
 rt:∀ e∈l,e.d.right=true
 seen:∀ e∈l,∀ d,hasC e.seen d=true->∃ x∈l,x.d=d
structure Kw (l:List Ev)(x:Kn):Prop where
 ok:KOk x
 inn:∀ d,hasC x.2 d=true->∃ e∈l,e.d=d
 clo:∀ e∈l,hasC x.2 e.d=true->∀ d,hasC e.seen d=true->hasC x.2 d=true
 st:∀ e∈l,∀ p,stE x.1 p e.d=if hasC x.2 e.d=true/\Ze (visL l x.2) e=true/\p=endP e.o then some (entE e.o e.d) else none
theorem Lw.nil:Lw []:=⟨fun _ h=>(by cases h),.nil,fun _ h=>(by cases h),fun _ h=>(by cases h)⟩
theorem Kw.nil:Kw [] kn0:=⟨qQr,fun d h=>(by rw[show kn0.2=[] from rfl,XH]at h;cases h),fun _ h=>(by cases h),fun _ h=>(by cases h)⟩
theorem Lw.one {l:List Ev}(h:Lw l){e f:Ev}(he:e∈l)(hf:f∈l)(hd:e.d=f.d):e=f:=zZ1 h.nd e he f hf hd
theorem Kp {l:List Ev}{e:Ev}(h:Ze l e=true):Qu e.o.act=true:=by unfold Ze at h;rw[Bool.and_eq_true]at h;exact h.1
theorem Kw.none' {l:List Ev}{x:Kn}(h:Kw l x){d:Dt}(hd:hasC x.2 d=false)(p:List ByteArray):stE x.1 p d=none:=by
 cases hs:stE x.1 p d with
 |none=>rfl
 |some y=>have h1:hasC x.2 d=true:=(Q5 h.ok hs).1;rw[h1]at hd;cases hd
theorem Kw.some' {l:List Ev}{x:Kn}(h:Kw l x){p:List ByteArray}{d:Dt}{y:En}(hs:stE x.1 p d=some y):∃ e∈l,e.d=d/\hasC x.2 e.d=true/\Ze (visL l x.2) e=true/\p=endP e.o/\y=entE e.o e.d:=by
 have hh:=(Q5 h.ok hs).1
 obtain⟨e,he,rfl⟩:=h.inn d hh
 rw[h.st e he]at hs
 split at hs
 ·rename_i hc
  cases hs
  exact⟨e,he,rfl,hc.1,hc.2.1,hc.2.2,rfl⟩
 ·cases hs
theorem ZU {α:Type}(p q:α->Bool):∀ l:List α,(l.filter p).all q=l.all fun x=>!p x||q x
 |[]=>rfl
 |x :: l=>by
  rw[List.filter_cons,List.all_cons]
  cases h:p x
  ·simp[ZU p q l]
  ·simp[ZU p q l]
theorem qYy {α:Type}(p q:α->Bool):∀ l:List α,(l.all fun x=>p x&&q x)=(l.all p&&l.all q)
 |[]=>rfl
 |x :: l=>by
  rw[List.all_cons,List.all_cons,List.all_cons,qYy p q l]
  cases p x<;>cases q x<;>cases l.all p<;>cases l.all q<;>rfl
theorem Vf {α:Type}{p q:α->Bool}:∀ {l:List α},(∀ x∈l,p x=q x)->l.all p=l.all q
 |[],_=>rfl
 |x :: l,h=>by rw[List.all_cons,List.all_cons,h x (by simp),Vf fun y hy=>h y (by simp[hy])]
theorem zQ0 {l:List Ev}{a b c:List Sp}{e:Ev}(hc:∀ x∈l,hasC c x.d=(hasC a x.d||hasC b x.d)):Ze (visL l c) e=(Ze (visL l a) e&&Ze (visL l b) e):=by
 unfold Ze visL
 rw[ZU,ZU,ZU]
 have h1:(l.all fun x=>!hasC c x.d||undB e.d e.o x)=((l.all fun x=>!hasC a x.d||undB e.d e.o x)&&(l.all fun x=>!hasC b x.d||undB e.d e.o x)):=by
  rw[←qYy]
  exact Vf fun x hx=>by rw[hc x hx];cases hasC a x.d<;>cases hasC b x.d<;>cases undB e.d e.o x<;>rfl
 rw[h1]
 cases Qu e.o.act<;>cases (l.all fun x=>!hasC a x.d||undB e.d e.o x)<;>rfl
theorem Kw.stand_no {l:List Ev}{x:Kn}(h:Kw l x){e:Ev}(hd:hasC x.2 e.d=false):Ze (visL l x.2) e=Qu e.o.act:=by
 unfold Ze
 have h1:(visL l x.2).all (undB e.d e.o)=true:=by
  rw[List.all_eq_true]
  intro y hy
  obtain⟨hy1,hy2⟩:=List.mem_filter.1 hy
  unfold undB
  cases hs:hasC y.seen e.d
  ·rfl
  ·have:=h.clo y hy1 hy2 _ hs
   rw[this]at hd;cases hd
 rw[h1,Bool.and_true]
theorem Kw.join {l:List Ev}{a b:Kn}(ha:Kw l a)(hb:Kw l b):Kw l (jn a b):=by
 have hhas:∀ d,hasC (jn a b).2 d=(hasC a.2 d||hasC b.2 d):=Ki ha.ok hb.ok
 refine⟨qQs ha.ok hb.ok,fun d hd=>?_,fun e he hd d hs=>?_,fun e he p=>?_⟩
 ·rw[hhas,Bool.or_eq_true]at hd
  exact hd.elim (ha.inn d) (hb.inn d)
 ·rw[hhas,Bool.or_eq_true]at hd ⊢
  exact hd.elim (fun h=>.inl (ha.clo e he h d hs)) (fun h=>.inr (hb.clo e he h d hs))
 ·have hst:=zQ0 (l:=l) (e:=e) (c:=(jn a b).2) fun x _=>hhas x.d
  rw[jn_st ha.ok hb.ok,hst,hhas,ha.st e he,hb.st e he]
  cases h1:hasC a.2 e.d
  ·have n1:=ha.stand_no h1
   cases h2:hasC b.2 e.d
   ·simp[jnO]
   ·rw[n1]
    cases h3:Ze (visL l b.2) e
    ·simp[jnO]
    ·have h4:=Kp h3
     rw[h4]
     by_cases hp:p=endP e.o
     ·simp[jnO,hp]
     ·simp[jnO,hp]
  ·cases h2:hasC b.2 e.d
   ·rw[hb.stand_no h2]
    cases h3:Ze (visL l a.2) e
    ·simp[jnO]
    ·have h4:=Kp h3
     rw[h4]
     by_cases hp:p=endP e.o
     ·simp[jnO,hp]
     ·simp[jnO,hp]
   ·cases h3:Ze (visL l a.2) e<;>cases h4:Ze (visL l b.2) e
    ·simp[jnO]
    ·by_cases hp:p=endP e.o<;>simp[jnO,hp]
    ·by_cases hp:p=endP e.o<;>simp[jnO,hp]
    ·by_cases hp:p=endP e.o
     ·simp[jnO,hp,zQr]
     ·simp[jnO,hp]
theorem Kw.seesIn {l:List Ev}{x:Kn}(h:Kw l x){o:Opr}{d:Dt}(hd:d∈seesD x.1 o):hasC x.2 d=true:=by
 obtain⟨q,e,h1,rfl⟩:=qWu h.ok.ord hd
 exact h.ok.has _ h1
theorem Lw.more {l:List Ev}{x:Kn}(hl:Lw l)(h:Kw l x){o:Opr}{d:Dt}(ha:appI x.1 o d=0)(hf:∀ e∈l,e.d≠d):Lw (l++[⟨d,o,x.2⟩]):=by
 obtain⟨_,h2,h3,_⟩:=Km ha
 obtain⟨_,g2,_⟩:=Zu h3
 refine⟨fun e he=>?_,?_,fun e he=>?_,fun e he z hz=>?_⟩
 ·rcases List.mem_append.1 he with he|he
  ·exact hl.op e he
  ·simp at he;subst he;exact h2
 ·rw[List.map_append,List.nodup_append]
  refine⟨hl.nd,by simp,fun a ha' b hb=>?_⟩
  obtain⟨e,he,rfl⟩:=List.mem_map.1 ha'
  simp at hb
  subst hb
  exact hf e he
 ·rcases List.mem_append.1 he with he|he
  ·exact hl.rt e he
  ·simp at he;subst he;exact g2
 ·rcases List.mem_append.1 he with he|he
  ·obtain⟨y,hy,e1⟩:=hl.seen e he z hz
   exact⟨y,by simp[hy],e1⟩
  ·simp at he;subst he
   obtain⟨y,hy,e1⟩:=h.inn z hz
   exact⟨y,by simp[hy],e1⟩
theorem zQ1 {l:List Ev}{c:List Sp}{e:Ev}(h:hasC c e.d=false):visL (l++[e]) c=visL l c:=by unfold visL;rw[List.filter_append];simp[h]
theorem Kw.other {l:List Ev}{x:Kn}(h:Kw l x){e:Ev}(hf:∀ y∈l,y.d≠e.d):Kw (l++[e]) x:=by
 have hno:hasC x.2 e.d=false:=by
  cases hh:hasC x.2 e.d
  ·rfl
  ·obtain⟨y,hy,e1⟩:=h.inn _ hh;exact absurd e1 (hf y hy)
 refine⟨h.ok,fun d hd=>?_,fun y hy hd d hs=>?_,fun y hy p=>?_⟩
 ·obtain⟨y,hy,e1⟩:=h.inn d hd;exact⟨y,by simp[hy],e1⟩
 ·rcases List.mem_append.1 hy with hy|hy
  ·exact h.clo y hy hd d hs
  ·simp at hy;subst hy;rw[hno]at hd;cases hd
 ·rw[zQ1 hno]
  rcases List.mem_append.1 hy with hy|hy
  ·exact h.st y hy p
  ·simp at hy;subst hy
   rw[h.none' hno,hno];simp
theorem Kw.made {l:List Ev}{x:Kn}(hl:Lw l)(h:Kw l x){o:Opr}{d:Dt}(ha:appI x.1 o d=0)(hf:∀ e∈l,e.d≠d):Kw (l++[⟨d,o,x.2⟩]) (jn x (appT x.1 o d,appC x.1 o d)):=by
 obtain⟨h1,h2,h3,_⟩:=Km ha
 obtain⟨g1,g2,g3⟩:=Zu h3
 have hX:KOk (appT x.1 o d,appC x.1 o d):=(QT ha).1
 have hno:hasC x.2 d=false:=by
  cases hh:hasC x.2 d
  ·rfl
  ·obtain⟨y,hy,e1⟩:=h.inn _ hh;exact absurd e1 (hf y hy)
 have hhas:∀ z,hasC (jn x (appT x.1 o d,appC x.1 o d)).2 z=(hasC x.2 z||decide (z=d)):=fun z=>by
  rw[Ki h.ok hX]
  simp only
  rw[Ko ha]
  by_cases h4:z∈seesD x.1 o
  ·rw[h.seesIn h4];simp
  ·simp[h4]
 refine⟨qQs h.ok hX,fun z hz=>?_,fun e he hd z hs=>?_,fun e he p=>?_⟩
 ·rw[hhas,Bool.or_eq_true,decide_eq_true_eq]at hz
  rcases hz with hz|rfl
  ·obtain⟨y,hy,e1⟩:=h.inn z hz;exact⟨y,by simp[hy],e1⟩
  ·exact⟨⟨z,o,x.2⟩,by simp,rfl⟩
 ·rw[hhas,Bool.or_eq_true]
  rcases List.mem_append.1 he with he|he
  ·rw[hhas,decide_eq_false (hf e he),Bool.or_false]at hd
   exact .inl (h.clo e he hd z hs)
  ·simp at he;subst he;exact .inl hs
 ·have hvis:visL (l++[⟨d,o,x.2⟩]) (jn x (appT x.1 o d,appC x.1 o d)).2=visL l x.2++[⟨d,o,x.2⟩]:=by
   unfold visL
   rw[List.filter_append]
   congr 1
   ·exact List.filter_congr fun y hy=>by rw[hhas,decide_eq_false (hf y hy),Bool.or_false]
   ·simp[hhas]
  have hstd:Ze (visL l x.2++[⟨d,o,x.2⟩]) e=(Ze (visL l x.2) e&&undB e.d e.o ⟨d,o,x.2⟩):=by
   unfold Ze
   rw[List.all_append]
   simp[Bool.and_assoc]
  rw[hvis,hstd,jn_st h.ok hX,hhas]
  simp only
  rw[zZ2 ha]
  rcases List.mem_append.1 he with he|he
  ·have hne:=hf e he
   rw[if_neg (by rintro⟨_,_,e1⟩;exact hne e1),decide_eq_false hne,Bool.or_false,h.st e he]
   have hu:undB e.d e.o ⟨d,o,x.2⟩ = !(hasC x.2 e.d&&undoB o e.o):=rfl
   rw[hu]
   by_cases hc:hasC x.2 e.d=true/\Ze (visL l x.2) e=true/\p=endP e.o
   ·have hs:=h.st e he p
    rw[if_pos hc]at hs
    obtain⟨m1,m2⟩:=(Qy h.ok.ord).1 hs
    have hsu:e.d∈seesD x.1 o↔undoB o e.o=true:=by
     refine qWz h.ok.ord h2 (hl.op e he) (Kp hc.2.1) (y:=entE e.o e.d) (by rw[←hc.2.2];exact m1) rfl fun p' z hz hzd=>?_
     have h5:stE x.1 p' e.d=some z:=(Qy h.ok.ord).2 ⟨hz,hzd⟩
     rw[h.st e he]at h5
     split at h5
     ·rename_i h6;exact h6.2.2
     ·cases h5
    rw[if_pos hc,hc.1,hc.2.1]
    have hC:hasC (appC x.1 o d) e.d=undoB o e.o:=by
     rw[Ko ha,Bool.eq_iff_iff,decide_eq_true_eq,←hsu]
     exact⟨fun h=>h.resolve_left hne,.inr⟩
    rw[hC]
    cases hub:undoB o e.o
    ·simp[jnO,hc.2.2]
    ·simp[jnO]
   ·rw[if_neg hc,if_neg (fun ⟨q1,q2,q3⟩=>hc ⟨q1,by rw[Bool.and_eq_true]at q2;exact q2.1,q3⟩)]
    simp[jnO]
  ·simp at he
   subst he
   rw[h.none' hno,hno]
   have hall:Ze (visL l x.2) ⟨d,o,x.2⟩=Qu o.act:=h.stand_no hno
   have hu:undB d o ⟨d,o,x.2⟩=true:=by unfold undB;simp[hno]
   simp only[hall,hu]
   by_cases ha':Qu o.act=true<;>by_cases hp':p=endP o<;>simp[ha',hp',jnO]
theorem qW0:∀ t:Tr,t.Ord->(t.lvs []).Nodup:=by
 intro t
 induction t using Tr.ind with
 |h es ks ih=>
  intro ho
  obtain⟨o1,o2,o3⟩:=QQ.1 ho
  rw[Tr.lvs,List.nodup_append]
  refine⟨?_,?_,?_⟩
  ·exact List.pairwise_map.2 (o1.imp fun {a b} h e=>by
    have:=(Prod.mk.inj e).2
    rw[this,Jf]at h;cases h)
  ·clear ho o1
   induction ks with
   |nil=>simp[Tr.lvsL]
   |cons x ks ih2=>
    obtain⟨k,u⟩:=x
    rw[Tr.lvsL,List.nodup_append]
    obtain⟨q1,q2⟩:=List.pairwise_cons.1 o2
    refine⟨?_,ih2 (fun k' t' h=>ih k' t' (by simp[h])) q2 (fun k' t' h=>o3 k' t' (by simp[h])),?_⟩
    ·rw[JM]
     have:=ih k u (by simp) (o3 k u (by simp)).2.2
     exact List.pairwise_map.2 (this.imp fun {a b} h e=>h (by
      simp only[List.nil_append,Prod.mk.injEq,List.append_cancel_left_eq]at e
      exact Prod.ext e.1 e.2))
    ·intro a ha b hb e
     subst e
     rw[JM,List.mem_map]at ha
     obtain⟨a',_,rfl⟩:=ha
     obtain⟨k',t',h1,h2⟩:=Vn.1 hb
     rw[JM,List.mem_map]at h2
     obtain⟨b',_,e2⟩:=h2
     have h3:=q1 _ h1
     simp only[List.nil_append,List.singleton_append,Prod.mk.injEq,List.cons.injEq]at e2
     rw[e2.1.1,Qx]at h3;cases h3
  ·intro a ha b hb e
   subst e
   obtain⟨x,_,rfl⟩:=List.mem_map.1 ha
   obtain⟨k',t',h1,h2⟩:=Vn.1 hb
   rw[JM,List.mem_map]at h2
   obtain⟨b',_,e2⟩:=h2
   simp at e2
theorem qW1:∀ t:Tr,t.Ord->∀ p:List ByteArray,t.sz+(t.lvs p).length*p.length<=((t.lvs p).map fun x=>x.1.length+1).sum:=by
 intro t
 induction t using Tr.ind with
 |h es ks ih=>
  intro ho p
  obtain⟨o1,o2,o3⟩:=QQ.1 ho
  have h1:∀ es:List En,(es.map fun e=>((p,e):Lf)).map (fun x=>x.1.length+1)=es.map fun _=>p.length+1:=fun es=>by simp
  have h2:∀ es:List En,(es.map fun _=>p.length+1).sum=es.length*(p.length+1):=fun es=>by
   induction es with
   |nil=>simp
   |cons e es ih=>simp only[List.map_cons,List.sum_cons,ih,List.length_cons,Nat.add_mul];omega
  have h3:Tr.szL ks+(Tr.lvsL ks p).length*p.length<=((Tr.lvsL ks p).map fun x=>x.1.length+1).sum:=by
   clear ho o1 o2 h1 h2
   induction ks with
   |nil=>simp[Tr.szL,Tr.lvsL]
   |cons x ks ih2=>
    obtain⟨k,u⟩:=x
    obtain⟨c1,c2,c3⟩:=o3 k u (by simp)
    have e1:=ih k u (by simp) c3 (p++[k])
    have e2:=ih2 (fun k' t' h=>ih k' t' (by simp[h])) fun k' t' h=>o3 k' t' (by simp[h])
    obtain⟨y,hy⟩:=Xp u c3 c2
    have e3:1<=(u.lvs (p++[k])).length:=by
     rw[JM,List.length_map];exact List.length_pos_of_mem hy
    rw[Tr.szL,Tr.lvsL,List.map_append,List.sum_append,List.length_append]
    rw[List.length_append,List.length_singleton,Nat.mul_add,Nat.mul_one]at e1
    rw[Nat.add_mul]
    omega
  rw[Tr.sz,Tr.lvs,List.map_append,List.sum_append,List.length_append,h1,h2,List.length_map,Nat.add_mul]
  have:es.length*(p.length+1)=es.length*p.length+es.length:=by rw[Nat.mul_add,Nat.mul_one]
  omega
theorem zZ3 {α:Type}(f:α->Nat)(c:Nat):∀ (l:List α),(∀ x∈l,f x<=c)->(l.map f).sum<=l.length*c
 |[],_=>by simp
 |x :: l,h=>by
  have h1:=zZ3 f c l fun y hy=>h y (by simp[hy])
  have h2:=h x (by simp)
  simp only[List.map_cons,List.sum_cons,List.length_cons,Nat.add_mul];omega
theorem qW2:∀ (l:List (Int×Int)) (p:Option Int),runsR p l=true->(l.Pairwise fun a b=>a.1<b.1)/\∀ q,p=some q->∀ r∈l,q<r.1
 |[],_,_=>⟨.nil,fun _ _ _ h=>by cases h⟩
 |r :: l,p,h=>by
  obtain⟨h1,h2,h3⟩:=(Qo p r l).1 h
  obtain⟨i1,i2⟩:=qW2 l _ h3
  have h4:=h1.2.1
  refine⟨List.pairwise_cons.2 ⟨fun b hb=>by have:=i2 _ rfl b hb;omega,i1⟩,fun q hq x hx=>?_⟩
  subst hq
  have h5:=of_decide_eq_true (show decide (q+1<r.1)=true from h2)
  rcases List.mem_cons.1 hx with rfl|hx
  ·omega
  ·have:=i2 _ rfl x hx;omega
theorem zXw {c:List Sp}(h:Qm c=true){D:List Dt}(hD:∀ d,hasC c d=true->d∈D):c.length<=D.length:=by
 have hd:=ZQ c 0 (by unfold Qm at h;simp at h;exact h.1)
 have h1:(c.map fun s=>(⟨s.dc,s.fr⟩:Dt)).Nodup:=by
  refine List.pairwise_map.2 (List.pairwise_iff_getElem.2 fun i j hi hj hij e=>?_)
  simp only[Dt.mk.injEq]at e
  obtain⟨d1,d2⟩:=hd _ (List.getElem_mem hi)
  obtain⟨m,hm⟩:∃ m:Nat,(m:Int)=c[i].dc:=⟨c[i].dc.toNat,by omega⟩
  have h2:=(qW2 _ _ (Qw h (i:=m) (by omega))).1
  unfold partL at h2
  rw[List.pairwise_map,List.pairwise_filter]at h2
  have h3:=List.pairwise_iff_getElem.1 h2 i j hi hj hij (by simp[hm]) (by simp[hm,e.1])
  simp only at h3
  omega
 have h2:=List.Nodup.length_le_of_subset h1 (l₂:=D) fun x hx=>by
  obtain⟨s,hs,rfl⟩:=List.mem_map.1 hx
  refine hD _ ?_
  obtain⟨d1,d2⟩:=hd s hs
  obtain⟨m,hm⟩:∃ m:Nat,(m:Int)=s.dc:=⟨s.dc.toNat,by omega⟩
  have hr:(s.fr,s.hi)∈partL c s.dc:=by unfold partL;exact List.mem_map.2 ⟨s,List.mem_filter.2 ⟨hs,by simp⟩,rfl⟩
  have h3:=Z5 h (i:=m) (by omega) (s.fr,s.hi) (by rw[hm];exact hr)
  unfold runOk at h3
  simp only at h3
  unfold hasC
  have h4:(⟨s.dc,s.fr⟩:Dt).right=true:=by rw[←hm];exact qYk (by omega) (by omega)
  rw[h4,Bool.true_and]
  unfold hasL
  rw[List.any_eq_true]
  exact⟨_,hr,by unfold inR;simp;omega⟩
 rwa [List.length_map]at h2
theorem Kw.size {l:List Ev}{x:Kn}(h:Kw l x):x.1.sz<=5*l.length/\x.2.length<=l.length:=by
 constructor
 ·have h1:=qW1 x.1 h.ok.ord []
  have h2:((x.1.lvs []).map fun x=>x.1.length+1).sum<=(x.1.lvs []).length*5:=zZ3 _ 5 _ fun y hy=>by
   have:=(h.ok.leaf y hy).1;omega
  have h3:((x.1.lvs []).map fun x=>x.2.dot).length<=(l.map (·.d)).length:=by
   refine List.Nodup.length_le_of_subset ?_ fun z hz=>?_
   ·refine List.pairwise_map.2 ((qW0 x.1 h.ok.ord).imp_of_mem fun {a b} ha hb hn e=>hn ?_)
    have s1:stE x.1 a.1 a.2.dot=some a.2:=(Qy h.ok.ord).2 ⟨ha,rfl⟩
    have s2:stE x.1 b.1 a.2.dot=some b.2:=(Qy h.ok.ord).2 ⟨hb,e.symm⟩
    obtain⟨e1,m1,n1,_,_,p1,q1⟩:=h.some' s1
    rw[←n1,h.st e1 m1]at s2
    split at s2
    ·rename_i hc
     have e3:=Option.some.inj s2
     exact Prod.ext (by rw[p1,hc.2.2]) (by rw[q1,e3])
    ·cases s2
   ·obtain⟨y,hy,rfl⟩:=List.mem_map.1 hz
    obtain⟨e,he,hd⟩:=h.inn _ (h.ok.has y hy)
    exact List.mem_map.2 ⟨e,he,hd⟩
  rw[List.length_map,List.length_map]at h3
  simp only[List.length_nil,Nat.mul_zero,Nat.add_zero]at h1
  omega
 ·have:=zXw h.ok.ap (D:=l.map (·.d)) fun d hd=>by
   obtain⟨e,he,e1⟩:=h.inn d hd
   exact List.mem_map.2 ⟨e,he,e1⟩
  rwa [List.length_map]at this
def EvA (w:World)(ok:Nat->Prop)(e:Ev)(cs:List Value):Prop:=
 ∃ A c A' c',cs=[.int .i64 e.d.dc,.int .i64 e.d.n,.slice A e.o.path.length c,.int .i64 e.o.act,.string e.o.s,.int .i64 e.o.n,.slice A' e.seen.length c']/\SlA w ok 1 StE (.slice A e.o.path.length c) e.o.path/\SlA w ok 3 SpE (.slice A' e.seen.length c') e.seen/\e.d.Ok/\e.o.Ok
theorem EvA.mon:Emon EvA where
 up:=fun hk ho ⟨A,c,A',c',h1,h2,h3,h4⟩=>⟨A,c,A',c',h1,h2.up hk ho fun _ _ _ h=>h,h3.up hk ho fun _ _ _ h=>h,h4⟩
 one:=by rintro w ok x cs ⟨A,c,A',c',rfl,_⟩;simp[Value.oneCell']
def EvL (w:World)(v:Value)(l:List Ev):Prop:=SlP w w.heap.size 7 (EvA w (fun b=>b<w.heap.size)) v l
theorem EvL.up {w w':World}{v:Value}{l:List Ev}(h:EvL w v l)(hb:Below w.heap.size w w'):EvL w' v l:=
 SlP.imp h hb hb.size fun _ _ _ hx=>EvA.mon.up (fun b hb'=>hb.block b hb') (fun _ hb'=>Nat.lt_of_lt_of_le hb' hb.size) hx
theorem EvL.at {w:World}{A:Option Addr}{n:Nat}{l:List Ev}(h:EvL w (.slice A l.length n) l){k:Nat}{x:Ev}(hx:l[k]?=some x) :
  ∃ b off A5 c5 A6 c6,A=some ⟨b,off,none⟩/\b<w.heap.size/\SlP w w.heap.size 1 StE (.slice A5 x.o.path.length c5) x.o.path/\SlP w w.heap.size 3 SpE (.slice A6 x.seen.length c6) x.seen/\x.d.Ok/\x.o.Ok /\
   ∀ W,Below w.heap.size w W->(W.cell? ⟨b,off+k*7,none⟩=some (.int .i64 x.d.dc)/\W.cell? ⟨b,off+k*7+1,none⟩=some (.int .i64 x.d.n)/\W.cell? ⟨b,off+k*7+2,none⟩=some (.slice A5 x.o.path.length c5)/\W.cell? ⟨b,off+k*7+3,none⟩=some (.int .i64 x.o.act)/\W.cell? ⟨b,off+k*7+4,none⟩=some (.string x.o.s)/\W.cell? ⟨b,off+k*7+5,none⟩=some (.int .i64 x.o.n)/\W.cell? ⟨b,off+k*7+6,none⟩=some (.slice A6 x.seen.length c6)):=by
 obtain⟨A',n',hv,_,_,h3⟩:=h
 cases hv
 obtain⟨b,off,rfl,hb,hc⟩:=h3 (by rintro rfl;simp at hx)
 obtain⟨cs,⟨A5,c5,A6,c6,rfl,hp,hs,hd,ho⟩,_,hu⟩:=hc k x hx
 exact⟨b,off,A5,c5,A6,c6,rfl,hb,hp,hs,hd,ho,fun W hW=>⟨(hW.cell hb).trans (hu 0 _ rfl),(hW.cell hb).trans (hu 1 _ rfl),(hW.cell hb).trans (hu 2 _ rfl),(hW.cell hb).trans (hu 3 _ rfl),(hW.cell hb).trans (hu 4 _ rfl),(hW.cell hb).trans (hu 5 _ rfl),(hW.cell hb).trans (hu 6 _ rfl)⟩⟩
theorem qQw {u:Tr}(ho:u.Ord){k:ByteArray}:k∈u.ks.map (·.1)↔∃ q y,((k :: q,y):Lf)∈u.lvs []:=by
 obtain⟨es,ks⟩:=u
 rw[List.mem_map]
 constructor
 ·rintro⟨⟨k',t⟩,hm,rfl⟩
  obtain⟨_,h2,h3⟩:=(QQ.1 ho).2.2 k' t hm
  obtain⟨⟨q,y⟩,hy⟩:=Xp t h3 h2
  exact⟨q,y,Qv.2 ⟨t,hm,hy⟩⟩
 ·rintro⟨q,y,h⟩
  obtain⟨t,hm,_⟩:=Qv.1 h
  exact⟨(k,t),hm,rfl⟩
structure SInv (l:List Ev)(n:Nat->Int)(K:Nat->Kn):Prop where
 lw:Lw l
 kw:∀ i,i<3->Kw l (K i)
 nn:∀ i,i<3->0<=n i/\n i<=l.length
 nm:∀ e∈l,∃ i:Nat,i<3/\e.d.dc=(i:Int)/\e.d.n<=n i
 some:∀ e∈l,∃ i,i<3/\hasC (K i).2 e.d=true
def setK {α:Type}(K:Nat->α)(i:Nat)(x:α):Nat->α:=fun j=>if j=i then x else K j
theorem qQx {α:Type}(K:Nat->α)(i:Nat)(x:α):setK K i x i=x:=if_pos rfl
theorem SInv.nil:SInv [] (fun _=>0) (fun _=>kn0):=⟨Lw.nil,fun _ _=>Kw.nil,fun _ _=>(by simp),fun _ h=>(by cases h),fun _ h=>(by cases h)⟩
theorem SInv.fresh {l:List Ev}{n:Nat->Int}{K:Nat->Kn}(h:SInv l n K){i:Nat}(hi:i<3):∀ e∈l,e.d≠⟨(i:Int),n i+1⟩:=fun e he e1=>by
 obtain⟨k,hk,h1,h2⟩:=h.nm e he
 rw[e1]at h1 h2
 simp only at h1 h2
 have:k=i:=by omega
 subst this
 omega
theorem SInv.make {l:List Ev}{n:Nat->Int}{K:Nat->Kn}(h:SInv l n K){i:Nat}(hi:i<3){o:Opr}(ha:appI (K i).1 o ⟨(i:Int),n i+1⟩=0) :
  SInv (l++[⟨⟨(i:Int),n i+1⟩,o,(K i).2⟩]) (setK n i (n i+1)) (setK K i (jn (K i) (appT (K i).1 o ⟨(i:Int),n i+1⟩,appC (K i).1 o ⟨(i:Int),n i+1⟩))):=by
 have hf:=h.fresh hi
 refine⟨h.lw.more (h.kw i hi) ha hf,fun k hk=>?_,fun k hk=>?_,fun e he=>?_,fun e he=>?_⟩
 ·unfold setK;split
  ·exact (h.kw i hi).made h.lw ha hf
  ·exact (h.kw k hk).other hf
 ·have h1:=h.nn k hk
  have h2:=h.nn i hi
  unfold setK
  rw[List.length_append,List.length_singleton]
  split
  ·push_cast;omega
  ·push_cast;omega
 ·rcases List.mem_append.1 he with he|he
  ·obtain⟨k,hk,h1,h2⟩:=h.nm e he
   refine⟨k,hk,h1,?_⟩
   unfold setK;split
   ·rename_i e1;subst e1;omega
   ·exact h2
  ·simp at he;subst he
   exact⟨i,hi,rfl,by rw[qQx];exact Int.le_refl _⟩
 ·have hX:KOk (appT (K i).1 o ⟨(i:Int),n i+1⟩,appC (K i).1 o ⟨(i:Int),n i+1⟩):=(QT ha).1
  rcases List.mem_append.1 he with he|he
  ·obtain⟨k,hk,hh⟩:=h.some e he
   refine⟨k,hk,?_⟩
   unfold setK;split
   ·rename_i e1
    subst e1
    rw[Ki (h.kw k hi).ok hX,hh];rfl
   ·exact hh
  ·simp at he;subst he
   refine⟨i,hi,?_⟩
   rw[qQx,Ki (h.kw i hi).ok hX]
   simp only
   rw[Ko ha];simp
theorem Kw.same {l:List Ev}{a b:Kn}(ha:Kw l a)(hb:Kw l b)(hc:a.2=b.2):a=b:=by
 obtain⟨a1,a2⟩:=a
 obtain⟨b1,b2⟩:=b
 simp only at hc
 subst hc
 have h:=CaOk.ext2 ha.ok hb.ok (fun p d=>?_) fun _=>rfl
 ·exact Prod.ext h.1 h.2
 ·cases hd:hasC a2 d
  ·rw[ha.none' hd,hb.none' hd]
  ·obtain⟨e,he,rfl⟩:=ha.inn d hd
   rw[ha.st e he,hb.st e he]
theorem SInv.all {l:List Ev}{n:Nat->Int}{K:Nat->Kn}(h:SInv l n K):Kw l (jnL [K 0,K 1,K 2])/\jnL [K 2,K 0,K 1]=jnL [K 0,K 1,K 2]/\visL l (jnL [K 0,K 1,K 2]).2=l:=by
 have h0:=h.kw 0 (by omega)
 have h1:=h.kw 1 (by omega)
 have h2:=h.kw 2 (by omega)
 have e1:jnL [K 0,K 1,K 2]=jn (jn (K 0) (K 1)) (K 2):=qWj h0.ok
 have hok:∀ x∈[K 2,K 0,K 1],KOk x:=fun x hx=>by
  simp at hx
  rcases hx with rfl|rfl|rfl
  ·exact h2.ok
  ·exact h0.ok
  ·exact h1.ok
 refine⟨by rw[e1];exact (h0.join h1).join h2,zQv (by
  refine List.Perm.trans (List.Perm.swap (K 0) (K 2) [K 1]) ?_
  exact List.Perm.cons _ (List.Perm.swap (K 1) (K 2) [])) hok,?_⟩
 unfold visL
 rw[List.filter_eq_self]
 intro e he
 obtain⟨k,hk,hh⟩:=h.some e he
 rw[e1,Ki (h0.join h1).ok h2.ok,Ki h0.ok h1.ok]
 rcases (show k=0∨k=1∨k=2 by omega) with rfl|rfl|rfl<;>simp[hh]
theorem z_new {w1 w7:World}{a:Array Value}{e:TypeId}(hb:Below (w1.alloc (.cells a e (0,0))).heap.size (w1.alloc (.cells a e (0,0))) w7):w7.heap[w1.heap.size]?=some (.cells a e (0,0)):=(hb.block _ (by simp)).trans (Qd rfl)
theorem zYy {w1 w7:World}{o:Obj}{a:Array Value}{e:TypeId}(hb:Below ((w1.alloc o).alloc (.cells a e (0,0))).heap.size ((w1.alloc o).alloc (.cells a e (0,0))) w7):w7.heap[w1.heap.size+1]?=some (.cells a e (0,0)):=(hb.block _ (by simp)).trans (Qd (by simp))
theorem qYz {w1 w7:World}{a:Array Value}{e:TypeId}(hb:Below (w1.alloc (.cells a e (0,0))).drew.heap.size (w1.alloc (.cells a e (0,0))).drew w7):w7.heap[w1.heap.size]?=some (.cells a e (0,0)):=(hb.block _ (by simp)).trans (Qd (w:=w1) rfl)
theorem zXx {w1 w7:World}{o:Obj}{a:Array Value}{e:TypeId}(hb:Below ((w1.alloc o).alloc (.cells a e (0,0))).drew.heap.size ((w1.alloc o).alloc (.cells a e (0,0))).drew w7):w7.heap[w1.heap.size+1]?=some (.cells a e (0,0)):=(hb.block _ (by simp)).trans (Qd (w:=w1.alloc o) (by simp))
abbrev V3:=Value×Value×Value
section
variable {w w':World}{g:Nat}{v:Nat->V3}{n:Nat->Int}{va:Value}{l:List Ev}{K:Nat->Kn}
end
def aftK (x:Kn)(o:Opr)(d:Dt):Kn:=jn x (appT x.1 o d,appC x.1 o d)
theorem qY0 {x:Kn}(hx:KOk x){o:Opr}{d:Dt}(h:appI x.1 o d=0):KOk (aftK x o d):=qQs hx (QT h).1
theorem st_es {u:Tr}(ho:u.Ord){y:En}:y∈u.es↔stE u [] y.dot=some y:=by rw[Qy ho,←Y7];simp
def renE (f:Dt->Dt)(e:En):En:=⟨(f e.dot).dc,(f e.dot).n,e.s,e.v⟩
def RnT (f:Dt->Dt)(s t:Tr):Prop:=∀ p y,((p,y):Lf)∈t.lvs []↔∃ e,((p,e):Lf)∈s.lvs []/\y=renE f e
structure RnK (f:Dt->Dt)(x y:Kn):Prop where
 okx:KOk x
 oky:KOk y
 lf:RnT f x.1 y.1
 inj:∀ d e,hasC x.2 d=true->hasC x.2 e=true->f d=f e->d=e
 ctx:∀ d,hasC y.2 d=true↔∃ e,hasC x.2 e=true/\f e=d
theorem RnT.get {f:Dt->Dt}{s t:Tr}(h:RnT f s t)(hs:s.Ord)(ht:t.Ord)(p:List ByteArray):RnT f (getK s p) (getK t p):=fun q y=>by
 rw[ZD p ht,h]
 exact⟨fun ⟨e,h1,h2⟩=>⟨e,(ZD p hs).2 h1,h2⟩,fun ⟨e,h1,h2⟩=>⟨e,(ZD p hs).1 h1,h2⟩⟩
theorem RnT.keys {f:Dt->Dt}{s t:Tr}(h:RnT f s t)(hs:s.Ord)(ht:t.Ord):s.ks.map (·.1)=t.ks.map (·.1):=by
 refine Yg Qx (fun _ _ _ h k=>QF h k) ?_ ?_ fun k=>?_
 ·obtain⟨es,ks⟩:=s
  exact List.pairwise_map.2 (QQ.1 hs).2.1
 ·obtain⟨es,ks⟩:=t
  exact List.pairwise_map.2 (QQ.1 ht).2.1
 ·rw[qQw hs,qQw ht]
  exact⟨fun ⟨q,e,h1⟩=>⟨q,_,(h _ _).2 ⟨e,h1,rfl⟩⟩,fun ⟨q,y,h1⟩=>by obtain⟨e,h2,_⟩:=(h _ _).1 h1;exact⟨q,e,h2⟩⟩
theorem qY1 {t:Tr}(ht:t.Ord):t.es.Nodup:=by
 obtain⟨es,ks⟩:=t
 exact (QQ.1 ht).1.imp fun {a b} hh e=>by rw[e,Jf]at hh;cases hh
theorem RnT.es {f:Dt->Dt}{s t:Tr}(h:RnT f s t)(hs:s.Ord)(ht:t.Ord)(hi:∀ d∈s.es,∀ e∈s.es,f d.dot=f e.dot->d.dot=e.dot):t.es.Perm (s.es.map (renE f)):=by
 refine (List.perm_ext_iff_of_nodup (qY1 ht) ?_).2 fun y=>?_
 ·refine List.pairwise_map.2 ((qY1 hs).imp_of_mem fun {a b} ha hb hne e=>hne ?_)
  have h1:a.dot=b.dot:=hi a ha b hb (congrArg En.dot e)
  have h2:=(st_es hs).1 ha
  have h3:=(st_es hs).1 hb
  rw[h1,h3]at h2;cases h2;rfl
 ·rw[←Y7,h,List.mem_map]
  exact⟨fun ⟨e,h1,h2⟩=>⟨e,Y7.1 h1,h2.symm⟩,fun ⟨e,h1,h2⟩=>⟨e,Y7.2 h1,h2.symm⟩⟩
def seeAt (o:Opr)(p:List ByteArray):Prop:=if o.act=3∨o.act=4 then ∃ q,p=o.path++[o.s]++q else if o.act=5 then False else if o.act=6 then p=o.path else ∃ q,p=o.path++q
theorem qY2 {t:Tr}(h:t.Ord){o:Opr}{x:Dt}:x∈seesD t o↔∃ p e,((p,e):Lf)∈t.lvs []/\e.dot=x/\seeAt o p:=by
 unfold seesD seeAt
 split
 ·rw[YO h]
  exact⟨fun ⟨q,e,h1,h2⟩=>⟨_,e,h1,h2,q,rfl⟩,fun ⟨p,e,h1,h2,q,h3⟩=>⟨q,e,h3▸h1,h2⟩⟩
 ·split
  ·simp
  ·split
   ·rw[qWt h]
    exact⟨fun ⟨e,h1,h2⟩=>⟨_,e,h1,h2,rfl⟩,fun ⟨p,e,h1,h2,h3⟩=>⟨e,h3▸h1,h2⟩⟩
   ·rw[YO h]
    exact⟨fun ⟨q,e,h1,h2⟩=>⟨_,e,h1,h2,q,rfl⟩,fun ⟨p,e,h1,h2,q,h3⟩=>⟨q,e,h3▸h1,h2⟩⟩
theorem RnK.sees {f:Dt->Dt}{x y:Kn}(h:RnK f x y){o:Opr}{z:Dt}(hz:hasC x.2 z=true):f z∈seesD y.1 o↔z∈seesD x.1 o:=by
 rw[qY2 h.oky.ord,qY2 h.okx.ord]
 constructor
 ·rintro⟨p,e,h1,h2,h3⟩
  obtain⟨e1,h4,rfl⟩:=(h.lf _ _).1 h1
  exact⟨p,e1,h4,h.inj _ _ (h.okx.has _ h4) hz h2,h3⟩
 ·rintro⟨p,e,h1,rfl,h3⟩
  exact⟨p,renE f e,(h.lf _ _).2 ⟨e,h1,rfl⟩,rfl,h3⟩
theorem RnK.fullAt {f:Dt->Dt}{x y:Kn}(h:RnK f x y)(p:List ByteArray)(k:Nat):fullAt x.1 p k=fullAt y.1 p k:=by
 have h1:=(h.lf.get h.okx.ord h.oky.ord (p.take k)).keys (JA h.okx.ord _) (JA h.oky.ord _)
 have h2:(getK x.1 (p.take k)).ks.length=(getK y.1 (p.take k)).ks.length:=by have:=congrArg List.length h1;simpa using this
 have h3:∀ s,hasK (getK x.1 (p.take k)) s=hasK (getK y.1 (p.take k)) s:=fun s=>by
  rw[Bool.eq_iff_iff]
  unfold hasK
  rw[List.any_eq_true,List.any_eq_true]
  have h4:∀ t:Tr,(∃ z∈t.ks,decide (z.1=s)=true)↔s∈t.ks.map (·.1):=fun t=>by rw[List.mem_map];simp
  rw[h4,h4,h1]
 unfold Go.Proofs.YtbcoelggdikipaaGreat.fullAt
 rw[h2,h3]
theorem RnK.dotEs {f:Dt->Dt}{x y:Kn}(h:RnK f x y)(p:List ByteArray):∀ d∈(getK x.1 p).es,∀ e∈(getK x.1 p).es,f d.dot=f e.dot->d.dot=e.dot:=fun d hd e he=>by
 have h1:∀ d∈(getK x.1 p).es,hasC x.2 d.dot=true:=fun d hd=>h.okx.has _ ((ZD p h.okx.ord).1 (Y7.2 hd))
 exact h.inj _ _ (h1 d hd) (h1 e he)
theorem RnK.full {f:Dt->Dt}{x y:Kn}(h:RnK f x y)(o:Opr):fullB x.1 o=fullB y.1 o:=by
 have h1:=((h.lf.get h.okx.ord h.oky.ord (endP o)).es (JA h.okx.ord _) (JA h.oky.ord _) (h.dotEs _)).length_eq
 rw[List.length_map]at h1
 unfold fullB fullP
 rw[h1,Jj fun k _=>h.fullAt (endP o) k]
theorem RnK.app {f:Dt->Dt}{x y:Kn}(h:RnK f x y)(o:Opr){d e:Dt}(hd:d.right=true)(he:e.right=true)(hd':hasC x.2 d=false)(he':hasC y.2 e=false):appI x.1 o d=appI y.1 o e:=by
 have hx:x.1.right 5=true:=(YL h.okx.ord).2 h.okx.leaf
 have hy:y.1.right 5=true:=(YL h.oky.ord).2 h.oky.leaf
 have hno:∀ {z:Kn}{c:Dt},KOk z->hasC z.2 c=false->c∉z.1.dots:=fun {z c} hz hc hm=>by
  obtain⟨p,e,h1,rfl⟩:=(Z6 _ _).1 hm
  rw[hz.has _ h1]at hc;cases hc
 unfold appI
 rw[hx,hy,qZ3 hx hd (hno h.okx hd'),qZ3 hy he (hno h.oky he'),h.full o]
theorem VJ {x:Kn}(hx:KOk x){o:Opr}{d:Dt}(h:appI x.1 o d=0)(hd:hasC x.2 d=false)(p:List ByteArray)(e:En):((p,e):Lf)∈(aftK x o d).1.lvs []↔(Qu o.act=true/\p=endP o/\e=entE o d)∨(((p,e):Lf)∈x.1.lvs []/\e.dot∉seesD x.1 o):=by
 have hX:KOk (appT x.1 o d,appC x.1 o d):=(QT h).1
 have hs:∀ {t:Tr},t.Ord->(((p,e):Lf)∈t.lvs []↔stE t p e.dot=some e):=fun {t} ho=>by rw[Qy ho];simp
 rw[hs (qY0 hx h).ord,hs hx.ord]
 unfold aftK
 rw[jn_st hx hX]
 simp only
 rw[zZ2 h,Ko h]
 by_cases hz:e.dot=d
 ·have hn:stE x.1 p e.dot=none:=by
   cases hs:stE x.1 p e.dot with
   |none=>rfl
   |some y=>have h1:hasC x.2 e.dot=true:=(Q5 hx hs).1;rw[hz,hd]at h1;cases h1
  rw[hn,hz,hd]
  by_cases h1:Qu o.act=true/\p=endP o
  ·rw[if_pos ⟨h1.1,h1.2,rfl⟩]
   simp[jnO,h1.1,h1.2,eq_comm]
  ·rw[if_neg (fun q=>h1 ⟨q.1,q.2.1⟩)]
   simp only[jnO]
   exact⟨fun q=>(by cases q),fun q=>by rcases q with⟨a,b,_⟩|⟨a,_⟩;exact absurd ⟨a,b⟩ h1;cases a⟩
 ·rw[if_neg (fun q=>hz q.2.2)]
  have hne:e≠entE o d:=fun q=>hz (by rw[q];rfl)
  cases hs:stE x.1 p e.dot with
  |none=>simp[jnO,hne]
  |some y=>by_cases h1:e.dot∈seesD x.1 o<;>simp[jnO,h1,hz,hne]
theorem Y4 {x:Kn}(hx:KOk x){o:Opr}{d:Dt}(h:appI x.1 o d=0)(z:Dt):hasC (aftK x o d).2 z=true↔hasC x.2 z=true∨z=d:=by
 have hX:KOk (appT x.1 o d,appC x.1 o d):=(QT h).1
 unfold aftK
 rw[Ki hx hX]
 simp only
 rw[Ko h,Bool.or_eq_true,decide_eq_true_eq]
 constructor
 ·rintro (h1|h1|h1)
  ·exact .inl h1
  ·exact .inr h1
  ·obtain⟨q,e,h2,rfl⟩:=qWu hx.ord h1
   exact .inl (hx.has _ h2)
 ·rintro (h1|h1)
  ·exact .inl h1
  ·exact .inr (.inl h1)
theorem RnK.step {f:Dt->Dt}{x y:Kn}(h:RnK f x y){o:Opr}{d:Dt}(ha:appI x.1 o d=0)(hb:appI y.1 o (f d)=0)(hd:hasC x.2 d=false)(he:hasC y.2 (f d)=false):RnK f (aftK x o d) (aftK y o (f d)):=by
 refine⟨qY0 h.okx ha,qY0 h.oky hb,fun p z=>?_,fun a b h1 h2 h3=>?_,fun z=>?_⟩
 ·rw[VJ h.oky hb he]
  constructor
  ·rintro (⟨h1,h2,rfl⟩|⟨h1,h2⟩)
   ·exact⟨entE o d,(VJ h.okx ha hd _ _).2 (.inl ⟨h1,h2,rfl⟩),rfl⟩
   ·obtain⟨e,h3,rfl⟩:=(h.lf _ _).1 h1
    exact⟨e,(VJ h.okx ha hd _ _).2 (.inr ⟨h3,fun h4=>h2 ((h.sees (h.okx.has _ h3)).2 h4)⟩),rfl⟩
  ·rintro⟨e,h1,rfl⟩
   rcases (VJ h.okx ha hd _ _).1 h1 with⟨h2,h3,rfl⟩|⟨h2,h3⟩
   ·exact .inl ⟨h2,h3,rfl⟩
   ·exact .inr ⟨(h.lf _ _).2 ⟨e,h2,rfl⟩,fun h4=>h3 ((h.sees (h.okx.has _ h2)).1 h4)⟩
 ·have hk:∀ z,hasC x.2 z=true->f z≠f d:=fun z hz e=>by
   have:=(h.ctx (f d)).2 ⟨z,hz,e⟩
   rw[he]at this;cases this
  rw[Y4 h.okx ha]at h1 h2
  rcases h1 with h1|rfl<;>rcases h2 with h2|rfl
  ·exact h.inj _ _ h1 h2 h3
  ·exact absurd h3 (hk _ h1)
  ·exact absurd h3.symm (hk _ h2)
  ·rfl
 ·rw[Y4 h.oky hb,h.ctx]
  constructor
  ·rintro (⟨e,h1,h2⟩|rfl)
   ·exact⟨e,(Y4 h.okx ha _).2 (.inl h1),h2⟩
   ·exact⟨d,(Y4 h.okx ha _).2 (.inr rfl),rfl⟩
  ·rintro⟨e,h1,h2⟩
   rcases (Y4 h.okx ha _).1 h1 with h1|rfl
   ·exact .inl ⟨e,h1,h2⟩
   ·exact .inr h2.symm
def stpN (nm:Nat->Dt)(s:Nat×Kn×Kn)(o:Opr):Nat×Kn×Kn:=(s.1+1,aftK s.2.1 o (nm s.1),jn s.2.2 (appT s.2.1.1 o (nm s.1),appC s.2.1.1 o (nm s.1)))
def chS (nm:Nat->Dt)(g:Kn)(ops:List Opr):Nat×Kn×Kn:=ops.foldl (stpN nm) (0,g,kn0)
theorem qY3 (nm:Nat->Dt)(g:Kn)(ops:List Opr)(o:Opr):chS nm g (ops++[o])=stpN nm (chS nm g ops) o:=by unfold chS;rw[List.foldl_append];rfl
theorem zQ2 {nm:Nat->Dt}{g:Kn}{ops:List Opr}{k:Nat}{o:Opr}(h:ops[k]?=some o):chS nm g (ops.take (k+1))=stpN nm (chS nm g (ops.take k)) o:=by rw[List.take_add_one,h];exact qY3 _ _ _ _
theorem qW3 (nm:Nat->Dt)(g:Kn):∀ ops:List Opr,(chS nm g ops).1=ops.length:=fun ops=>by
 have:∀ (ops:List Opr) (s:Nat×Kn×Kn),(ops.foldl (stpN nm) s).1=s.1+ops.length:=fun ops=>by
  induction ops with
  |nil=>intro s;rfl
  |cons o ops ih=>intro s;rw[List.foldl_cons,ih,List.length_cons];show s.1+1+_=_;omega
 unfold chS;rw[this];exact Nat.zero_add _
def okTx (nm:Nat->Dt)(g:Kn)(ops:List Opr):Prop:=∀ (k:Nat) o,ops[k]?=some o->appI (chS nm g (ops.take k)).2.1.1 o (nm k)=0
theorem qZ6 {t:Tr}{o:Opr}{d:Dt}(h:appI t o d=0):(appC t o d).length<=4*(t.sz+2):=by
 have e1:appC t o d=ctxOf (d :: seesD t o):=by unfold appC;rw[if_pos h]
 have e2:(ctxOf (d :: seesD t o)).length<=4*((d :: seesD t o).length+1):=Zk _ 4
 have e3:=qYv t o
 rw[e1]
 simp only[List.length_cons]at e2
 omega
structure ChI (nm:Nat->Dt)(g:Kn)(k:Nat)(s:Nat×Kn×Kn):Prop where
 now:KOk s.2.1
 out:KOk s.2.2
 has:∀ z,hasC s.2.1.2 z=true↔hasC g.2 z=true∨∃ i,i<k/\z=nm i
 eq:jn g s.2.2=s.2.1
 z1:s.2.1.1.sz<=g.1.sz+5*k
 z2:s.2.2.1.sz<=5*k
 l1:s.2.1.2.length<=g.2.length+500*k
 l2:s.2.2.2.length<=500*k
theorem zZ4 {nm:Nat->Dt}{g:Kn}{ops:List Opr}(hg:KOk g)(hz:g.1.sz<=60)(hl:ops.length<=12)(hok:okTx nm g ops):∀ k,k<=ops.length->ChI nm g k (chS nm g (ops.take k))
 |0,_=>by
  refine⟨hg,qQr,fun z=>?_,?_,by simp[chS],by simp[chS,kn0,Tr.sz,Tr.szL],by simp[chS],by simp[chS,kn0]⟩
  ·simp[chS]
  ·show jn g kn0=g
   rw[qWh hg qQr,qWi hg]
 |k+1,hk=>by
  have ih:=zZ4 hg hz hl hok k (by omega)
  have hlt:k<ops.length:=by omega
  have hx:=List.getElem?_eq_getElem hlt
  have ha:=hok k _ hx
  have h1:(chS nm g (ops.take k)).1=k:=by rw[qW3,List.length_take];omega
  rw[zQ2 hx]
  generalize chS nm g (ops.take k)=s at *
  obtain⟨n,x,u⟩:=s
  simp only at h1 ha
  subst h1
  obtain⟨i1,i2,i3,i4,i5,i6,i7,i8⟩:=ih
  simp only at i1 i2 i3 i4 i5 i6 i7 i8
  have hX:KOk (appT x.1 ops[n] (nm n),appC x.1 ops[n] (nm n)):=(QT ha).1
  have hs:(appT x.1 ops[n] (nm n)).sz<=5:=(QT ha).2
  have hc:=qZ6 ha
  have j1:=jn_sz i1 hX
  have j2:=jn_sz i2 hX
  simp only at j1 j2
  refine⟨qY0 i1 ha,qQs i2 hX,fun z=>?_,?_,?_,?_,?_,?_⟩
  ·show hasC (aftK x ops[n] (nm n)).2 z=true↔_
   rw[Y4 i1 ha,i3]
   constructor
   ·rintro ((h|⟨i,h,e⟩)|h)
    ·exact .inl h
    ·exact .inr ⟨i,by omega,e⟩
    ·exact .inr ⟨n,by omega,h⟩
   ·rintro (h|⟨i,h,e⟩)
    ·exact .inl (.inl h)
    ·rcases (show i<n∨i=n by omega) with h2|rfl
     ·exact .inl (.inr ⟨i,h2,e⟩)
     ·exact .inr e
  ·show jn g (jn u _)=aftK x ops[n] (nm n)
   rw[←VC hg i2 hX,i4];rfl
  ·exact Nat.le_trans j1.1 (by omega)
  ·exact Nat.le_trans j2.1 (by omega)
  ·exact Nat.le_trans j1.2 (by omega)
  ·exact Nat.le_trans j2.2 (by omega)
def txD (k:Nat):Dt:=⟨0,1099511627765+(k:Int)⟩
def OpA (w:World)(ok:Nat->Prop)(o:Opr)(cs:List Value):Prop:=
 ∃ A c,cs=[.slice A o.path.length c,.int .i64 o.act,.string o.s,.int .i64 o.n]/\SlA w ok 1 StE (.slice A o.path.length c) o.path/\o.Ok
theorem OpA.mon:Emon OpA where
 up:=fun hk ho ⟨A,c,h1,h2,h3⟩=>⟨A,c,h1,h2.up hk ho fun _ _ _ h=>h,h3⟩
 one:=by rintro w ok x cs ⟨A,c,rfl,_⟩;simp[Value.oneCell']
theorem eiOp:Qr Tryz.prog 47 65 4 56:=Qr.mk (z:=.agg #[.slice none 0 0,.int .i64 0,.string ByteArray.empty,.int .i64 0]) Tryz.underlying47 (by kernel_rfl) rfl
def OpL (w:World)(v:Value)(l:List Opr):Prop:=SlP w w.heap.size 4 (OpA w (fun b=>b<w.heap.size)) v l
theorem OpL.up {w w':World}{v:Value}{l:List Opr}(h:OpL w v l)(hb:Below w.heap.size w w'):OpL w' v l:=
 SlP.imp h hb hb.size fun _ _ _ hx=>OpA.mon.up (fun b hb'=>hb.block b hb') (fun _ hb'=>Nat.lt_of_lt_of_le hb' hb.size) hx
theorem OwnD.opl {w:World}{base:Nat}{okp:Nat->Prop}{v:Value}{l:List Opr}(h:OwnD w base 65 4 OpA okp v l)(hl:l.length<=Big):OpL w v l:=
 (OwnD.sl h OpA.mon hl).imp (Below.refl _ _) (Nat.le_refl _) fun _ _ _ hx=>OpA.mon.up (fun _ _=>rfl) (fun _ hb=>hb.2) hx
theorem OpL.at {w:World}{A:Option Addr}{n:Nat}{l:List Opr}(h:OpL w (.slice A l.length n) l){k:Nat}{x:Opr}(hx:l[k]?=some x) :
  ∃ b off A5 c5,A=some ⟨b,off,none⟩/\b<w.heap.size/\SlP w w.heap.size 1 StE (.slice A5 x.path.length c5) x.path/\x.Ok /\
   ∀ W:World,W.heap[b]?=w.heap[b]?->(W.cell? ⟨b,off+k*4,none⟩=some (.slice A5 x.path.length c5)/\W.cell? ⟨b,off+k*4+1,none⟩=some (.int .i64 x.act)/\W.cell? ⟨b,off+k*4+2,none⟩=some (.string x.s)/\W.cell? ⟨b,off+k*4+3,none⟩=some (.int .i64 x.n)):=by
 obtain⟨A',n',hv,_,_,h3⟩:=h
 cases hv
 obtain⟨b,off,rfl,hb,hc⟩:=h3 (by rintro rfl;simp at hx)
 obtain⟨cs,⟨A5,c5,rfl,hp,ho⟩,_,hu⟩:=hc k x hx
 have e:∀ W:World,W.heap[b]?=w.heap[b]?->∀ o,W.cell? ⟨b,o,none⟩=w.cell? ⟨b,o,none⟩:=fun W hW o=>World.cell?_of_block hW
 exact⟨b,off,A5,c5,rfl,hb,hp,ho,fun W hW=>⟨(e W hW _).trans (hu 0 _ rfl),(e W hW _).trans (hu 1 _ rfl),(e W hW _).trans (hu 2 _ rfl),(e W hW _).trans (hu 3 _ rfl)⟩⟩
def Kr (v:Nat->V3)(vo:Value):Array Value:=#[(v 0).1,(v 0).2.1,(v 0).2.2,(v 1).1,(v 1).2.1,(v 1).2.2,vo]
def okGo (w:World)(g:Nat)(vo:Value)(okp:Nat->Prop)(b:Nat):Prop:=okp b/\b≠g/\b<w.heap.size/\vo.ownBlock≠some b
structure TxB (w:World)(g:Nat)(okp:Nat->Prop)(v:Nat->V3)(vo:Value)(G N:Kn)(ops:List Opr):Prop where
 box:w.heap[g]?=some (.cells (Kr v vo) 100 (0,0))
 tg:G.1.rda w (okGo w g vo okp) (v 0).1 (v 0).2.1
 cg:SlA w (okGo w g vo okp) 3 SpE (v 0).2.2 G.2
 tn:N.1.rda w (okGo w g vo okp) (v 1).1 (v 1).2.1
 cn:SlA w (okGo w g vo okp) 3 SpE (v 1).2.2 N.2
 own:OwnD w (g+1) 65 4 OpA (fun b=>okp b/\b≠g) vo ops
 ob:∀ b,vo.ownBlock=some b->okp b
section
variable {w w':World}{g:Nat}{okp okq:Nat->Prop}{v:Nat->V3}{vo:Value}{G N:Kn}{ops:List Opr}
theorem TxB.lt (h:TxB w g okp v vo G N ops):g<w.heap.size:=lt_of_block h.box
theorem TxB.keep (h:TxB w g okp v vo G N ops)(hk:∀ b,(okp b∨b=g)->b<w.heap.size->w'.heap[b]?=w.heap[b]?)(hs:w.heap.size<=w'.heap.size)(ho:∀ b,okp b->b<w.heap.size->okq b):TxB w' g okq v vo G N ops:=by
 have k1:Keeps (okGo w g vo okp) w w':=fun b hb=>hk b (.inl hb.1) hb.2.2.1
 have k2:∀ b,okGo w g vo okp b->okGo w' g vo okq b:=fun b hb=>⟨ho b hb.1 hb.2.2.1,hb.2.1,Nat.lt_of_lt_of_le hb.2.2.1 hs,hb.2.2.2⟩
 refine⟨(hk g (.inr rfl) h.lt).trans h.box,Qs k1 k2 _ _ _ h.tg,h.cg.up k1 k2 fun _ _ _ h=>h,Qs k1 k2 _ _ _ h.tn,h.cn.up k1 k2 fun _ _ _ h=>h,?_,fun b hb=>ho b (h.ob b hb) (OwnD.lt h.own b hb).2⟩
 have h1:=OwnP.keep (w':=w') h.own fun q hq=>hk q (.inl (h.ob q hq)) (OwnD.lt h.own q hq).2
 exact h1.imp fun x _ cs hx=>OpA.mon.up (fun b hb=>hk b (.inl hb.1.1) hb.2.1) (fun b hb=>⟨⟨ho b hb.1.1 hb.2.1,hb.1.2⟩,Nat.lt_of_lt_of_le hb.2.1 hs,hb.2.2⟩) hx
theorem TxB.grow (h:TxB w g okp v vo G N ops)(hb:Below w.heap.size w w'):TxB w' g okp v vo G N ops:=h.keep (fun b _ hl=>hb.block b hl) hb.size fun _ h _=>h
theorem TxB.rdG (h:TxB w g okp v vo G N ops):G.1.rd w w.heap.size (v 0).1 (v 0).2.1:=Zx h.tg (fun _ hb=>hb.2.2.1) (Below.refl _ _)
theorem TxB.slG (h:TxB w g okp v vo G N ops):SlP w w.heap.size 3 SpE (v 0).2.2 G.2:=h.cg.slp (fun _ hb=>hb.2.2.1) (Below.refl _ _)
theorem TxB.rdN (h:TxB w g okp v vo G N ops):N.1.rd w w.heap.size (v 1).1 (v 1).2.1:=Zx h.tn (fun _ hb=>hb.2.2.1) (Below.refl _ _)
theorem TxB.slN (h:TxB w g okp v vo G N ops):SlP w w.heap.size 3 SpE (v 1).2.2 N.2:=h.cn.slp (fun _ hb=>hb.2.2.1) (Below.refl _ _)
theorem TxB.opl (h:TxB w g okp v vo G N ops)(hl:ops.length<=Big):OpL w vo ops:=OwnD.opl h.own hl
theorem TxB.cells (h:TxB w g okp v vo G N ops):w.cell? ⟨g,0,none⟩=some (v 0).1/\w.cell? ⟨g,1,none⟩=some (v 0).2.1/\w.cell? ⟨g,2,none⟩=some (v 0).2.2/\w.cell? ⟨g,3,none⟩=some (v 1).1/\w.cell? ⟨g,4,none⟩=some (v 1).2.1/\w.cell? ⟨g,5,none⟩=some (v 1).2.2/\w.cell? ⟨g,6,none⟩=some vo:=by
 have hb:=h.box
 unfold Kr at hb
 exact⟨Qa (i:=0) hb,Qa (i:=1) hb,Qa (i:=2) hb,Qa (i:=3) hb,Qa (i:=4) hb,Qa (i:=5) hb,Qa (i:=6) hb⟩
theorem TxB.frz (h:TxB w g okp v vo G N ops)(o:Nat):w.frozen? ⟨g,o,none⟩=false:=Qb h.box
theorem zYz {e:TypeId}(h:w.heap[g]?=some (.cells (Kr v vo) e (0,0)))(a b c d:Value) :
  ((((w.setCell ⟨g,3,none⟩ a).setCell ⟨g,4,none⟩ b).setCell ⟨g,5,none⟩ c).setCell ⟨g,6,none⟩ d).heap[g]?=some (.cells (Kr (fun i=>if i=1 then (a,b,c) else v i) d) e (0,0)):=by
 have h1:=Qe (i:=3) h a
 have h2:=Qe (i:=4) h1 b
 have h3:=Qe (i:=5) h2 c
 have h4:=Qe (i:=6) h3 d
 rw[h4]
 simp[Kr]
theorem TxB.set (h:TxB w g okp v vo G N ops){vo' a b c:Value}{N':Kn}{ops':List Opr}(hg:w'.heap[g]?=w.heap[g]?)(hk:∀ b,b<w.heap.size->b≠g->vo.ownBlock≠some b->w'.heap[b]?=w.heap[b]?)(hs:w.heap.size<=w'.heap.size)
  (hv:vo'.ownBlock=vo.ownBlock∨∃ b,vo'.ownBlock=some b/\w.heap.size<=b) (hr:N'.1.rda w' (fun b=>w.heap.size<=b/\b<w'.heap.size/\vo'.ownBlock≠some b) a b) (hc:SlA w' (fun b=>w.heap.size<=b/\b<w'.heap.size/\vo'.ownBlock≠some b) 3 SpE c N'.2)
  (hown:OwnD w' (g+1) 65 4 OpA (fun b=>(okp b∨w.heap.size<=b)/\b≠g) vo' ops') :
  TxB ((((w'.setCell ⟨g,3,none⟩ a).setCell ⟨g,4,none⟩ b).setCell ⟨g,5,none⟩ c).setCell ⟨g,6,none⟩ vo') g (fun b=>okp b∨w.heap.size<=b) (fun i=>if i=1 then (a,b,c) else v i) vo' G N' ops':=by
 have hgl:=h.lt
 have hK:∀ k,k≠g->((((w'.setCell ⟨g,3,none⟩ a).setCell ⟨g,4,none⟩ b).setCell ⟨g,5,none⟩ c).setCell ⟨g,6,none⟩ vo').heap[k]?=w'.heap[k]?:=fun k hk=>(Below.heap_setCell _ _ _ _ hk).trans ((Below.heap_setCell _ _ _ _ hk).trans ((Below.heap_setCell _ _ _ _ hk).trans (Below.heap_setCell _ _ _ _ hk)))
 have hS:((((w'.setCell ⟨g,3,none⟩ a).setCell ⟨g,4,none⟩ b).setCell ⟨g,5,none⟩ c).setCell ⟨g,6,none⟩ vo').heap.size=w'.heap.size:=by simp[World.setCell]
 have hv1:∀ b,b<w.heap.size->vo.ownBlock≠some b->vo'.ownBlock≠some b:=fun b hb hn=>by
  rcases hv with e|⟨q,e,hq⟩
  ·rw[e];exact hn
  ·rw[e];intro e;cases e;omega
 have k1:∀ k,okGo w g vo okp k->((((w'.setCell ⟨g,3,none⟩ a).setCell ⟨g,4,none⟩ b).setCell ⟨g,5,none⟩ c).setCell ⟨g,6,none⟩ vo').heap[k]?=w.heap[k]?:=fun k hq=>(hK k hq.2.1).trans (hk k hq.2.2.1 hq.2.1 hq.2.2.2)
 have k2:∀ k,okGo w g vo okp k->okGo ((((w'.setCell ⟨g,3,none⟩ a).setCell ⟨g,4,none⟩ b).setCell ⟨g,5,none⟩ c).setCell ⟨g,6,none⟩ vo') g vo' (fun b=>okp b∨w.heap.size<=b) k:=fun k hq=>⟨.inl hq.1,hq.2.1,by rw[hS];exact Nat.lt_of_lt_of_le hq.2.2.1 hs,hv1 k hq.2.2.1 hq.2.2.2⟩
 have n1:∀ k,(w.heap.size<=k/\k<w'.heap.size/\vo'.ownBlock≠some k)->((((w'.setCell ⟨g,3,none⟩ a).setCell ⟨g,4,none⟩ b).setCell ⟨g,5,none⟩ c).setCell ⟨g,6,none⟩ vo').heap[k]?=w'.heap[k]?:=fun k hq=>hK k (by omega)
 have n2:∀ k,(w.heap.size<=k/\k<w'.heap.size/\vo'.ownBlock≠some k)->okGo ((((w'.setCell ⟨g,3,none⟩ a).setCell ⟨g,4,none⟩ b).setCell ⟨g,5,none⟩ c).setCell ⟨g,6,none⟩ vo') g vo' (fun b=>okp b∨w.heap.size<=b) k:=fun k hq=>⟨.inr hq.1,by omega,by rw[hS];exact hq.2.1,hq.2.2⟩
 refine⟨zYz (hg.trans h.box) a b c vo',?_,?_,?_,?_,?_,?_⟩
 ·simp only[Nat.zero_ne_one,if_false];exact Qs k1 k2 _ _ _ h.tg
 ·simp only[Nat.zero_ne_one,if_false];exact h.cg.up k1 k2 fun _ _ _ h=>h
 ·simp only[if_true];exact Qs n1 n2 _ _ _ hr
 ·simp only[if_true];exact hc.up n1 n2 fun _ _ _ h=>h
 ·have h1:=OwnP.keep (w':=((((w'.setCell ⟨g,3,none⟩ a).setCell ⟨g,4,none⟩ b).setCell ⟨g,5,none⟩ c).setCell ⟨g,6,none⟩ vo')) hown fun q hq=>hK q (by have:=(OwnD.lt hown q hq).1;omega)
  exact h1.imp fun x _ cs hx=>OpA.mon.up (fun k hk=>hK k hk.1.2) (fun k hk=>⟨hk.1,by rw[hS];exact hk.2.1,hk.2.2⟩) hx
 ·intro q hq
  rcases hv with e|⟨q',e,hq'⟩
  ·exact .inl (h.ob q (e▸hq))
  ·rw[e]at hq;cases hq;exact .inr hq'
end
theorem qKe (xs:List _)(v:Value)(w:World)(h:SlP w w.heap.size 1 StE v xs)(hN:xs.length<=Few) :
  Calls Tryz.prog 92 #[v] w (RetO w 9 1 (fun _=>StE) xs):=by
 have H:=hid h
 have q:∀ (w:World) (a:Option Addr) (n c n' c':Nat),(binOp .eql 30 (.slice a n c) (.slice none n' c')).run Tryz.prog w=.ok (.bool a.isNone) w:=fun w a n c n' c'=>Lib.run_eql_slice_nil w _ _ a n c n' c' Tryz.underlying30
 obtain⟨A,c,rfl,h1,h2,h3⟩:=h
 cases A with
 |none=>
  have hz:xs=[]:=by
   rcases xs with _|⟨x,xs⟩
   ·rfl
   ·obtain⟨b,off,e,_⟩:=h3 (by simp);cases e
  subst hz
  go_enter Tryz.func92,Tryz.ntmps92
  go_wp2_with fail
  go_ret
  exact⟨_,rfl,OwnP.nil,Below.refl _ _⟩
 |some a=>
  have HN:=hid hN
  clear h1 h2 h3
  go_enter Tryz.func92,Tryz.ntmps92
  go_wp2_with (at_builtin;go_loud (refine Qk rfl (.tmp 5) (.tmp 6) _ rfl eiStr (by decide) (by decide) (fun _ _ h=>h.one) rfl (OwnP.zero (base:=w.heap.size) (Qd rfl) (Nat.le_refl _)) rfl (H.out.imp ((Below.refl _ w).alloc (Nat.le_refl _) _) (Nat.le_refl _) fun _ _ _ h=>h) (by simpa using HN.out) (by simp) ?_);intro v2 w2 hown2 hb2 _)
  go_ret
  exact⟨_,rfl,by simpa using hown2,((Below.refl _ w).alloc (Nat.le_refl _) _).trans hb2⟩
theorem box4o {w:World}{g:Nat}{x y z u:Value}{e:TypeId}(hbx:w.heap[g]?=some (.cells #[x,y,z,u] e (0,0)))(a b c d:Value) :
  ((((w.setCell ⟨g,0,none⟩ a).setCell ⟨g,1,none⟩ b).setCell ⟨g,2,none⟩ c).setCell ⟨g,3,none⟩ d).heap[g]?=some (.cells #[a,b,c,d] e (0,0)) /\
   (∀ k,k≠g->((((w.setCell ⟨g,0,none⟩ a).setCell ⟨g,1,none⟩ b).setCell ⟨g,2,none⟩ c).setCell ⟨g,3,none⟩ d).heap[k]?=w.heap[k]?)/\((((w.setCell ⟨g,0,none⟩ a).setCell ⟨g,1,none⟩ b).setCell ⟨g,2,none⟩ c).setCell ⟨g,3,none⟩ d).heap.size=w.heap.size:=by
 have hW:=Qe (i:=3) (Qe (i:=2) (Qe (i:=1) (Qe (i:=0) hbx a) b) c) d
 exact⟨by rw[hW];simp,fun k hk=>(Below.heap_setCell _ _ _ _ hk).trans ((Below.heap_setCell _ _ _ _ hk).trans ((Below.heap_setCell _ _ _ _ hk).trans (Below.heap_setCell _ _ _ _ hk))),by simp[World.setCell]⟩
def zY0 (w:World)(o:Opr)(e:Ending)(w':World):Prop:=
 ∃ vp,e=.returned (.agg #[vp,.int .i64 o.act,.string o.s,.int .i64 o.n])/\SlU w' (fun b=>w.heap.size<=b/\b<w'.heap.size) 1 StE vp o.path/\Below w.heap.size w w'
theorem Jt (o:Opr)(vp:Value)(w:World)(h:SlP w w.heap.size 1 StE vp o.path)(hN:o.path.length<=900000) :
  Calls Tryz.prog 56 #[.agg #[vp,.int .i64 o.act,.string o.s,.int .i64 o.n]] w (zY0 w o):=by
 obtain⟨A,c,rfl,b1,b2,_⟩:=id h
 obtain⟨path,act,s,n⟩:=o
 simp only at h hN b1 b2 ⊢
 have HC:Hid (∀ w',Below w.heap.size w w'->SlP w' w'.heap.size 1 StE (.slice A path.length c) path):=fun w' hb=>h.imp hb hb.size fun _ _ _ h=>h
 have hb0:Below w.heap.size w ((w.alloc (.cells #[.slice A path.length c,.int .i64 act,.string s,.int .i64 n] 65)).alloc (.cells #[.slice none 0 0,.int .i64 0,.string ByteArray.empty,.int .i64 0] 65)):=((Below.refl _ w).alloc (Nat.le_refl _) _).alloc (by simp) _
 have HB0:=hid hb0
 have HX:Hid (∀ W,Below (w.heap.size+2) ((w.alloc (.cells #[.slice A path.length c,.int .i64 act,.string s,.int .i64 n] 65)).alloc (.cells #[.slice none 0 0,.int .i64 0,.string ByteArray.empty,.int .i64 0] 65)) W->(W.heap[w.heap.size]?=some (.cells #[.slice A path.length c,.int .i64 act,.string s,.int .i64 n] 65 (0,0))/\W.heap[w.heap.size+1]?=some (.cells #[.slice none 0 0,.int .i64 0,.string ByteArray.empty,.int .i64 0] 65 (0,0)))):=fun W hW=>
  ⟨(hW.block _ (by omega)).trans ((Qg (by simp)).trans (Qd rfl)),(hW.block _ (by omega)).trans (Qd (by simp))⟩
 clear h hb0
 go_enter Tryz.func56,Tryz.ntmps56
 go_wp2_with fail
 refine (qKe path _ _ (HC.out _ HB0.out) (by unfold Few;omega)).mono ?_
 rintro e w1 ⟨v1,rfl,hown,hb⟩
 obtain⟨A1,c1,hv⟩:=OwnP.shape hown
 subst hv
 have HO:=hid hown
 have hB:Below (w.heap.size+2) ((w.alloc (.cells #[.slice A path.length c,.int .i64 act,.string s,.int .i64 n] 65)).alloc (.cells #[.slice none 0 0,.int .i64 0,.string ByteArray.empty,.int .i64 0] 65)) w1:=hb.mono (by simp)
 have hs1:=hb.size
 simp only[World.size_alloc]at hs1
 have HB:=hid hB
 obtain⟨g0,g1⟩:=HX.out _ hB
 have HG0:=hid g0
 have HG1:=hid g1
 have e1:=Qa (i:=1) g0
 have e2:=Qa (i:=2) g0
 have e3:=Qa (i:=3) g0
 have f0:=Qb (i:=0) g0
 have k0:=Qb (i:=0) g1
 have k1:=Qb (i:=1) g1
 have k2:=Qb (i:=2) g1
 have k3:=Qb (i:=3) g1
 have l0:=Qa (i:=0) g0
 have m0:w1.cell? ⟨w.heap.size+1,0,none⟩=some (.slice none 0 0):=Qa (i:=0) g1
 have m1:w1.cell? ⟨w.heap.size+1,1,none⟩=some (.int .i64 0):=Qa (i:=1) g1
 have m2:w1.cell? ⟨w.heap.size+1,2,none⟩=some (.string ByteArray.empty):=Qa (i:=2) g1
 have m3:w1.cell? ⟨w.heap.size+1,3,none⟩=some (.int .i64 0):=Qa (i:=3) g1
 simp only[List.getElem?_toArray,List.getElem?_cons_zero,List.getElem?_cons_succ]at e1 e2 e3 l0
 have hne:w.heap.size+1≠w.heap.size:=by omega
 have hne':w.heap.size≠w.heap.size+1:=by omega
 clear hown hb hB g0 g1
 go_wp2_with fail
 have hg1:(w1.setCell ⟨w.heap.size,0,none⟩ (.slice A1 path.length c1)).heap[w.heap.size+1]?=some (.cells #[.slice none 0 0,.int .i64 0,.string ByteArray.empty,.int .i64 0] 65 (0,0)):=(Below.heap_setCell _ _ _ _ hne).trans HG1.out
 obtain⟨hW,hK,hS⟩:=box4o hg1 (.slice A1 path.length c1) (.int .i64 act) (.string s) (.int .i64 n)
 obtain⟨r0,r1,r2,r3⟩:=bx4 hW
 have hBW:Below w.heap.size w (((((w1.setCell ⟨w.heap.size,0,none⟩ (.slice A1 path.length c1)).setCell ⟨w.heap.size+1,0,none⟩ (.slice A1 path.length c1)).setCell ⟨w.heap.size+1,1,none⟩ (.int .i64 act)).setCell ⟨w.heap.size+1,2,none⟩ (.string s)).setCell ⟨w.heap.size+1,3,none⟩ (.int .i64 n)):=(((((HB0.out.trans (HB.out.mono (by omega))).setCell (Nat.le_refl _) _).setCell (by simp) _).setCell (by simp) _).setCell (by simp) _).setCell (by simp) _
 have hS1:(w1.setCell ⟨w.heap.size,0,none⟩ (.slice A1 path.length c1)).heap.size=w1.heap.size:=by simp[World.setCell]
 refine bodyPost_ret (v:=.agg #[.slice A1 path.length c1,.int .i64 act,.string s,.int .i64 n]) (by simp[results,Tryz.results56,go_sem,r0,r1,r2,r3]) rfl ⟨_,rfl,?_,hBW⟩
 exact (HO.out.slu (by unfold Big;omega)).up (fun b hb=>(hK b (by have:=hb.1;simp only[World.size_alloc]at this;omega)).trans (Below.heap_setCell _ _ _ _ (by have:=hb.1;simp only[World.size_alloc]at this;show b≠w.heap.size;omega))) (fun b hb=>⟨by have:=hb.1;simp only[World.size_alloc]at this;omega,by rw[hS,hS1];exact hb.2.1⟩) (fun _ _ _ h=>h)
def RetOp (w:World)(o:Opr)(e:Ending)(w':World):Prop:=
 ∃ vp,e=.returned (.agg #[vp,.int .i64 o.act,.string o.s,.int .i64 o.n])/\SlA w' (fun b=>w.heap.size<=b/\b<w'.heap.size) 1 StE vp o.path/\Below w.heap.size w w'
theorem Ks (o:Opr)(vp:Value)(w:World)(h:SlP w w.heap.size 1 StE vp o.path)(hN:o.path.length<=900000) :
  Calls Tryz.prog 56 #[.agg #[vp,.int .i64 o.act,.string o.s,.int .i64 o.n]] w (RetOp w o):=(Jt o vp w h hN).mono fun _ _ ⟨vp,h1,h2,h3⟩=>⟨vp,h1,h2.dn,h3⟩
theorem QS {w w1:World}{N g:Nat}{T:Tr}{C:List Sp}{x y z a b c:Value}{e:TypeId}(hG:w1.heap[g]?=some (.cells #[x,y,z] e (0,0)))(hB:Below w.heap.size w w1)(hg:w.heap.size<=g)(hN:g<N)(hrd:T.rda w1 (fun b=>N<=b/\b<w1.heap.size) a b)(hsl:SlA w1 (fun b=>N<=b/\b<w1.heap.size) 3 SpE c C) :
  (((w1.setCell ⟨g,0,none⟩ a).setCell ⟨g,1,none⟩ b).setCell ⟨g,2,none⟩ c).cell? ⟨g,0,none⟩=some a/\(((w1.setCell ⟨g,0,none⟩ a).setCell ⟨g,1,none⟩ b).setCell ⟨g,2,none⟩ c).cell? ⟨g,1,none⟩=some b/\(((w1.setCell ⟨g,0,none⟩ a).setCell ⟨g,1,none⟩ b).setCell ⟨g,2,none⟩ c).cell? ⟨g,2,none⟩=some c /\
  T.rda (((w1.setCell ⟨g,0,none⟩ a).setCell ⟨g,1,none⟩ b).setCell ⟨g,2,none⟩ c) (fun q=>w.heap.size<=q/\q<(((w1.setCell ⟨g,0,none⟩ a).setCell ⟨g,1,none⟩ b).setCell ⟨g,2,none⟩ c).heap.size) a b /\
  SlA (((w1.setCell ⟨g,0,none⟩ a).setCell ⟨g,1,none⟩ b).setCell ⟨g,2,none⟩ c) (fun q=>w.heap.size<=q/\q<(((w1.setCell ⟨g,0,none⟩ a).setCell ⟨g,1,none⟩ b).setCell ⟨g,2,none⟩ c).heap.size) 3 SpE c C /\
  Below w.heap.size w (((w1.setCell ⟨g,0,none⟩ a).setCell ⟨g,1,none⟩ b).setCell ⟨g,2,none⟩ c):=by
 obtain⟨r0,r1,r2,hK,hS⟩:=box3 hG a b c
 have hBW:=((hB.setCell (p:=⟨g,0,none⟩) hg a).setCell (p:=⟨g,1,none⟩) hg b).setCell (p:=⟨g,2,none⟩) hg c
 exact⟨r0,r1,r2,Qs (fun q hq=>hK q (by omega)) (fun q hq=>⟨by omega,by rw[hS];exact hq.2⟩) _ _ _ hrd,hsl.up (fun q hq=>hK q (by omega)) (fun q hq=>⟨by omega,by rw[hS];exact hq.2⟩) (fun _ _ _ h=>h),hBW⟩
theorem zQ3 (u:Tr)(o:Opr)(d:Dt)(ve vk vp:Value)(w:World)(h:u.rd w w.heap.size ve vk)(hp:SlP w w.heap.size 1 StE vp o.path)(ho:o.Ok)(hd:d.Ok)(hN:u.sz<=4000) :
  Calls Tryz.prog 99 #[.agg #[ve,vk],.agg #[vp,.int .i64 o.act,.string o.s,.int .i64 o.n],.agg #[.int .i64 d.dc,.int .i64 d.n]] w (RetCE w (leafX u o d).1 (leafX u o d).2.1 (leafX u o d).2.2):=by
 have HC:Hid (∀ w',Below w.heap.size w w'->u.rd w' w'.heap.size ve vk):=fun w' hb=>Qi hb hb.size _ _ _ h
 obtain⟨A3,n3,A4,n4,rfl,rfl⟩:=Qj h
 obtain⟨A5,n5,rfl,_⟩:=hp
 obtain⟨oa,on,os⟩:=ho
 obtain⟨path,act,s,n⟩:=o
 simp only at oa on os ⊢
 have hb0:=((((Below.refl w.heap.size w).alloc (Nat.le_refl _) (.cells #[.slice A3 u.es.length n3,.slice A4 u.ks.length n4] 25)).alloc (by simp) (.cells #[.slice A5 path.length n5,.int .i64 act,.string s,.int .i64 n] 65)).alloc (by simp;omega) (.cells #[.int .i64 d.dc,.int .i64 d.n] 78)).alloc (by simp;omega) (.cells #[.slice none 0 0,.slice none 0 0,.slice none 0 0] 29)
 have HX:Hid (∀ W,Below (w.heap.size+4) ((((w.alloc (.cells #[.slice A3 u.es.length n3,.slice A4 u.ks.length n4] 25)).alloc (.cells #[.slice A5 path.length n5,.int .i64 act,.string s,.int .i64 n] 65)).alloc (.cells #[.int .i64 d.dc,.int .i64 d.n] 78)).alloc (.cells #[.slice none 0 0,.slice none 0 0,.slice none 0 0] 29)) W ->
   (Below w.heap.size w W/\W.cell? ⟨w.heap.size,0,none⟩=some (.slice A3 u.es.length n3)/\W.cell? ⟨w.heap.size,1,none⟩=some (.slice A4 u.ks.length n4)/\W.cell? ⟨w.heap.size+1,0,none⟩=some (.slice A5 path.length n5)/\W.cell? ⟨w.heap.size+1,1,none⟩=some (.int .i64 act)/\W.cell? ⟨w.heap.size+1,2,none⟩=some (.string s)/\W.cell? ⟨w.heap.size+1,3,none⟩=some (.int .i64 n) /\
    W.cell? ⟨w.heap.size+2,0,none⟩=some (.int .i64 d.dc)/\W.cell? ⟨w.heap.size+2,1,none⟩=some (.int .i64 d.n)/\W.heap[w.heap.size+3]?=some (.cells #[.slice none 0 0,.slice none 0 0,.slice none 0 0] 29 (0,0)))):=fun W hW=>by
  have g0:W.heap[w.heap.size]?=some (.cells #[.slice A3 u.es.length n3,.slice A4 u.ks.length n4] 25 (0,0)):=(hW.block _ (by omega)).trans ((Qg (by simp<;>omega)).trans ((Qg (by simp<;>omega)).trans ((Qg (by simp)).trans (Qd rfl))))
  have g1:W.heap[w.heap.size+1]?=some (.cells #[.slice A5 path.length n5,.int .i64 act,.string s,.int .i64 n] 65 (0,0)):=(hW.block _ (by omega)).trans ((Qg (by simp<;>omega)).trans ((Qg (by simp)).trans (Qd (by simp))))
  have g2:W.heap[w.heap.size+2]?=some (.cells #[.int .i64 d.dc,.int .i64 d.n] 78 (0,0)):=(hW.block _ (by omega)).trans ((Qg (by simp)).trans (Qd (by simp)))
  have g3:W.heap[w.heap.size+3]?=some (.cells #[.slice none 0 0,.slice none 0 0,.slice none 0 0] 29 (0,0)):=(hW.block _ (by omega)).trans (Qd (by simp))
  exact⟨hb0.trans (hW.mono (by omega)),Qa (i:=0) g0,Qa (i:=1) g0,Qa (i:=0) g1,Qa (i:=1) g1,Qa (i:=2) g1,Qa (i:=3) g1,Qa (i:=0) g2,Qa (i:=1) g2,g3⟩
 clear h
 by_cases a1:act=1
 ·subst a1
  rw[qWm rfl]
  go_enter Tryz.func99,Tryz.ntmps99
  obtain⟨hB0,c0,c1,p0,p1,p2,p3,d0,d1,g3⟩:=HX.out _ (Below.refl _ _)
  clear g3
  go_wp2_with fail
  refine (qZ2 u d _ _ _ (HC.out _ hb0) (by omega) hd).mono ?_
  rintro e w1 ⟨ve1,vk1,vc1,rfl,hrd1,hsl1,hb1⟩
  obtain⟨Av,nv,Aw,nw,rfl,rfl⟩:=Ql hrd1
  obtain⟨Ac,nc,rfl⟩:=hsl1.shape
  simp only[World.size_alloc]at hrd1 hsl1 hb1
  have hBx:Below (w.heap.size+4) _ w1:=hb1.mono (by omega)
  clear c0 c1 p0 p1 p2 p3 d0 d1
  obtain⟨hB1,c0,c1,p0,p1,p2,p3,d0,d1,hG⟩:=HX.out _ hBx
  have HG:=hid hG
  obtain⟨k0,k1,k2,z0,z1,z2⟩:=bz3 hG
  have HR:=hid hrd1
  have HS:=hid hsl1
  have HB:=hid hB1
  clear hrd1 hsl1 hb1 hBx hG hB1 c0 c1 p0 p1 p2 p3 d0 d1
  go_wp2_with fail
  obtain⟨r0,r1,r2,q1,q2,q3⟩:=QS HG.out HB.out (by omega) (by omega) HR.out HS.out
  exact bodyPost_ret (v:=.tuple #[.agg #[_,_,_],.int .i64 _]) (by simp[results,Tryz.results99,go_sem,r0,r1,r2]<;>rfl) rfl ⟨_,_,_,rfl,q1,q2,q3⟩
 by_cases a2:act=2
 ·subst a2
  rw[qWn rfl]
  go_enter Tryz.func99,Tryz.ntmps99
  obtain⟨hB0,c0,c1,p0,p1,p2,p3,d0,d1,g3⟩:=HX.out _ (Below.refl _ _)
  clear g3
  go_wp2_with fail
  refine (qQb u d _ _ _ (HC.out _ hb0) (by omega) hd).mono ?_
  rintro e w1 ⟨ve1,vk1,vc1,rfl,hrd1,hsl1,hb1⟩
  obtain⟨Av,nv,Aw,nw,rfl,rfl⟩:=Ql hrd1
  obtain⟨Ac,nc,rfl⟩:=hsl1.shape
  simp only[World.size_alloc]at hrd1 hsl1 hb1
  have hBx:Below (w.heap.size+4) _ w1:=hb1.mono (by omega)
  clear c0 c1 p0 p1 p2 p3 d0 d1
  obtain⟨hB1,c0,c1,p0,p1,p2,p3,d0,d1,hG⟩:=HX.out _ hBx
  have HG:=hid hG
  obtain⟨k0,k1,k2,z0,z1,z2⟩:=bz3 hG
  have HR:=hid hrd1
  have HS:=hid hsl1
  have HB:=hid hB1
  clear hrd1 hsl1 hb1 hBx hG hB1 c0 c1 p0 p1 p2 p3 d0 d1
  go_wp2_with fail
  obtain⟨r0,r1,r2,q1,q2,q3⟩:=QS HG.out HB.out (by omega) (by omega) HR.out HS.out
  exact bodyPost_ret (v:=.tuple #[.agg #[_,_,_],.int .i64 _]) (by simp[results,Tryz.results99,go_sem,r0,r1,r2]<;>rfl) rfl ⟨_,_,_,rfl,q1,q2,q3⟩
 by_cases a3:act=3
 ·subst a3
  rw[qWo rfl]
  go_enter Tryz.func99,Tryz.ntmps99
  obtain⟨hB0,c0,c1,p0,p1,p2,p3,d0,d1,g3⟩:=HX.out _ (Below.refl _ _)
  clear g3
  go_wp2_with fail
  refine (zQj u s d _ _ _ (HC.out _ hb0) os (by omega) hd).mono ?_
  rintro e w1 ⟨ve1,vk1,vc1,rfl,hrd1,hsl1,hb1⟩
  obtain⟨Av,nv,Aw,nw,rfl,rfl⟩:=Ql hrd1
  obtain⟨Ac,nc,rfl⟩:=hsl1.shape
  simp only[World.size_alloc]at hrd1 hsl1 hb1
  have hBx:Below (w.heap.size+4) _ w1:=hb1.mono (by omega)
  clear c0 c1 p0 p1 p2 p3 d0 d1
  obtain⟨hB1,c0,c1,p0,p1,p2,p3,d0,d1,hG⟩:=HX.out _ hBx
  have HG:=hid hG
  obtain⟨k0,k1,k2,z0,z1,z2⟩:=bz3 hG
  have HR:=hid hrd1
  have HS:=hid hsl1
  have HB:=hid hB1
  clear hrd1 hsl1 hb1 hBx hG hB1 c0 c1 p0 p1 p2 p3 d0 d1
  go_wp2_with fail
  obtain⟨r0,r1,r2,q1,q2,q3⟩:=QS HG.out HB.out (by omega) (by omega) HR.out HS.out
  exact bodyPost_ret (v:=.tuple #[.agg #[_,_,_],.int .i64 _]) (by simp[results,Tryz.results99,go_sem,r0,r1,r2]<;>rfl) rfl ⟨_,_,_,rfl,q1,q2,q3⟩
 by_cases a4:act=4
 ·subst a4
  rw[qWp rfl]
  go_enter Tryz.func99,Tryz.ntmps99
  obtain⟨hB0,c0,c1,p0,p1,p2,p3,d0,d1,g3⟩:=HX.out _ (Below.refl _ _)
  clear g3
  go_wp2_with fail
  refine (zQi u s d _ _ _ (HC.out _ hb0) os (by omega) hd).mono ?_
  rintro e w1 ⟨ve1,vk1,vc1,rfl,hrd1,hsl1,hb1⟩
  obtain⟨Av,nv,Aw,nw,rfl,rfl⟩:=Ql hrd1
  obtain⟨Ac,nc,rfl⟩:=hsl1.shape
  simp only[World.size_alloc]at hrd1 hsl1 hb1
  have hBx:Below (w.heap.size+4) _ w1:=hb1.mono (by omega)
  clear c0 c1 p0 p1 p2 p3 d0 d1
  obtain⟨hB1,c0,c1,p0,p1,p2,p3,d0,d1,hG⟩:=HX.out _ hBx
  have HG:=hid hG
  obtain⟨k0,k1,k2,z0,z1,z2⟩:=bz3 hG
  have HR:=hid hrd1
  have HS:=hid hsl1
  have HB:=hid hB1
  clear hrd1 hsl1 hb1 hBx hG hB1 c0 c1 p0 p1 p2 p3 d0 d1
  go_wp2_with fail
  obtain⟨r0,r1,r2,q1,q2,q3⟩:=QS HG.out HB.out (by omega) (by omega) HR.out HS.out
  exact bodyPost_ret (v:=.tuple #[.agg #[_,_,_],.int .i64 _]) (by simp[results,Tryz.results99,go_sem,r0,r1,r2]<;>rfl) rfl ⟨_,_,_,rfl,q1,q2,q3⟩
 by_cases a5:act=5
 ·subst a5
  rw[qWq rfl]
  go_enter Tryz.func99,Tryz.ntmps99
  obtain⟨hB0,c0,c1,p0,p1,p2,p3,d0,d1,g3⟩:=HX.out _ (Below.refl _ _)
  clear g3
  go_wp2_with fail
  refine (zQk u n d _ _ _ (HC.out _ hb0) (by omega) on hd).mono ?_
  rintro e w1 ⟨ve1,vk1,vc1,rfl,hrd1,hsl1,hb1⟩
  obtain⟨Av,nv,Aw,nw,rfl,rfl⟩:=Ql hrd1
  obtain⟨Ac,nc,rfl⟩:=hsl1.shape
  simp only[World.size_alloc]at hrd1 hsl1 hb1
  have hBx:Below (w.heap.size+4) _ w1:=hb1.mono (by omega)
  clear c0 c1 p0 p1 p2 p3 d0 d1
  obtain⟨hB1,c0,c1,p0,p1,p2,p3,d0,d1,hG⟩:=HX.out _ hBx
  have HG:=hid hG
  obtain⟨k0,k1,k2,z0,z1,z2⟩:=bz3 hG
  have HR:=hid hrd1
  have HS:=hid hsl1
  have HB:=hid hB1
  clear hrd1 hsl1 hb1 hBx hG hB1 c0 c1 p0 p1 p2 p3 d0 d1
  go_wp2_with fail
  obtain⟨r0,r1,r2,q1,q2,q3⟩:=QS HG.out HB.out (by omega) (by omega) HR.out HS.out
  exact bodyPost_ret (v:=.tuple #[.agg #[_,_,_],.int .i64 _]) (by simp[results,Tryz.results99,go_sem,r0,r1,r2]<;>rfl) rfl ⟨_,_,_,rfl,q1,q2,q3⟩
 by_cases a6:act=6
 ·subst a6
  rw[qWr rfl]
  go_enter Tryz.func99,Tryz.ntmps99
  obtain⟨hB0,c0,c1,p0,p1,p2,p3,d0,d1,g3⟩:=HX.out _ (Below.refl _ _)
  clear g3
  go_wp2_with fail
  refine (qJ0 u s d _ _ _ (HC.out _ hb0) os (by omega) hd).mono ?_
  rintro e w1 ⟨ve1,vk1,vc1,rfl,hrd1,hsl1,hb1⟩
  obtain⟨Av,nv,Aw,nw,rfl,rfl⟩:=Ql hrd1
  obtain⟨Ac,nc,rfl⟩:=hsl1.shape
  simp only[World.size_alloc]at hrd1 hsl1 hb1
  have hBx:Below (w.heap.size+4) _ w1:=hb1.mono (by omega)
  clear c0 c1 p0 p1 p2 p3 d0 d1
  obtain⟨hB1,c0,c1,p0,p1,p2,p3,d0,d1,hG⟩:=HX.out _ hBx
  have HG:=hid hG
  obtain⟨k0,k1,k2,z0,z1,z2⟩:=bz3 hG
  have HR:=hid hrd1
  have HS:=hid hsl1
  have HB:=hid hB1
  clear hrd1 hsl1 hb1 hBx hG hB1 c0 c1 p0 p1 p2 p3 d0 d1
  go_wp2_with fail
  obtain⟨r0,r1,r2,q1,q2,q3⟩:=QS HG.out HB.out (by omega) (by omega) HR.out HS.out
  exact bodyPost_ret (v:=.tuple #[.agg #[_,_,_],.int .i64 _]) (by simp[results,Tryz.results99,go_sem,r0,r1,r2]<;>rfl) rfl ⟨_,_,_,rfl,q1,q2,q3⟩
 ·have hX:leafX u ⟨path,act,s,n⟩ d=(.mk [] [],disC u d,chkI u d):=by unfold leafX;rw[if_neg a1,if_neg a2,if_neg a3,if_neg a4,if_neg a5,if_neg a6]
  rw[hX]
  have e1:(act==1)=false:=by simpa using a1
  have e2:(act==2)=false:=by simpa using a2
  have e3:(act==3)=false:=by simpa using a3
  have e4:(act==4)=false:=by simpa using a4
  have e5:(act==5)=false:=by simpa using a5
  have e6:(act==6)=false:=by simpa using a6
  go_enter Tryz.func99,Tryz.ntmps99
  obtain⟨hB0,c0,c1,p0,p1,p2,p3,d0,d1,g3⟩:=HX.out _ (Below.refl _ _)
  clear g3
  go_wp2_with fail
  refine (qKb u d _ _ _ (HC.out _ hb0) (by omega) hd).mono ?_
  rintro e w1 ⟨ve1,vk1,vc1,rfl,hrd1,hsl1,hb1⟩
  obtain⟨Av,nv,Aw,nw,rfl,rfl⟩:=Ql hrd1
  obtain⟨Ac,nc,rfl⟩:=hsl1.shape
  simp only[World.size_alloc]at hrd1 hsl1 hb1
  have hBx:Below (w.heap.size+4) _ w1:=hb1.mono (by omega)
  clear c0 c1 p0 p1 p2 p3 d0 d1
  obtain⟨hB1,c0,c1,p0,p1,p2,p3,d0,d1,hG⟩:=HX.out _ hBx
  have HG:=hid hG
  obtain⟨k0,k1,k2,z0,z1,z2⟩:=bz3 hG
  have HR:=hid hrd1
  have HS:=hid hsl1
  have HB:=hid hB1
  clear hrd1 hsl1 hb1 hBx hG hB1 c0 c1 p0 p1 p2 p3 d0 d1
  go_wp2_with fail
  obtain⟨r0,r1,r2,q1,q2,q3⟩:=QS HG.out HB.out (by omega) (by omega) HR.out HS.out
  exact bodyPost_ret (v:=.tuple #[.agg #[_,_,_],.int .i64 _]) (by simp[results,Tryz.results99,go_sem,r0,r1,r2]<;>rfl) rfl ⟨_,_,_,rfl,q1,q2,q3⟩
theorem SlP.takeK {α:Type}{w:World}{B sz:Nat}{E:α->List Value->Prop}{A:Option Addr}{c:Nat}{l:List α}(h:SlP w B sz E (.slice A l.length c) l){k:Nat}(hk:k<=l.length):SlP w B sz E (.slice A k c) (l.take k):=by
 obtain⟨A',c',hv,h1,h2,h3⟩:=h
 cases hv
 have hl:(l.take k).length=k:=by simp;omega
 refine⟨A,c,by rw[hl],by omega,by omega,fun hn=>?_⟩
 obtain⟨b,off,rfl,hB,hc⟩:=h3 (by rintro rfl;simp at hn)
 refine⟨b,off,rfl,hB,fun j x hx=>hc j x ?_⟩
 rw[List.getElem?_take]at hx
 split at hx
 ·exact hx
 ·cases hx
def ofI (a:Int):Int:=if a=1∨a=2 then 1 else if a=3∨a=4 then 2 else if a=5 then 3 else if a=6 then 4 else if a=7 then 0 else -1
theorem zY1 (a:Int)(w:World):Calls Tryz.prog 136 #[.int .i64 a] w fun e w'=>e=.returned (.int .i64 (ofI a))/\Below w.heap.size w w':=by
 by_cases hc:a=1∨a=2∨a=3∨a=4∨a=5∨a=6∨a=7
 ·rcases hc with rfl|rfl|rfl|rfl|rfl|rfl|rfl<;>
  (go_enter Tryz.func136,Tryz.ntmps136
   go_wp2_with fail
   go_ret
   exact⟨rfl,Below.refl _ _⟩)
 ·obtain⟨g1,g2,g3,g4,g5,g6,g7⟩:a≠1/\a≠2/\a≠3/\a≠4/\a≠5/\a≠6/\a≠7:=by omega
  have hO:ofI a=-1:=by unfold ofI;rw[if_neg (by omega),if_neg (by omega),if_neg (by omega),if_neg (by omega),if_neg (by omega)]
  rw[hO]
  have d1:decide (a=1)=false:=by simpa using g1
  have d2:decide (a=2)=false:=by simpa using g2
  have d3:decide (a=3)=false:=by simpa using g3
  have d4:decide (a=4)=false:=by simpa using g4
  have d5:decide (a=5)=false:=by simpa using g5
  have d6:decide (a=6)=false:=by simpa using g6
  have d7:decide (a=7)=false:=by simpa using g7
  have e1:(a==1)=false:=by simpa using g1
  have e2:(a==2)=false:=by simpa using g2
  have e3:(a==3)=false:=by simpa using g3
  have e4:(a==4)=false:=by simpa using g4
  have e5:(a==5)=false:=by simpa using g5
  have e6:(a==6)=false:=by simpa using g6
  have e7:(a==7)=false:=by simpa using g7
  clear hc
  go_enter Tryz.func136,Tryz.ntmps136
  go_wp2_with fail
  go_ret
  exact⟨rfl,Below.refl _ _⟩
theorem qQy (a:Int)(w:World):Calls Tryz.prog 104 #[.int .i64 a] w fun e w'=>e=.returned (.bool (Qu a))/\Below w.heap.size w w':=by
 by_cases hc:a=1∨a=2∨a=3∨a=4∨a=5∨a=6∨a=7
 ·rcases hc with rfl|rfl|rfl|rfl|rfl|rfl|rfl<;>
  (go_enter Tryz.func104,Tryz.ntmps104
   go_wp2_with fail
   go_ret
   exact⟨rfl,Below.refl _ _⟩)
 ·obtain⟨g1,g2,g3,g4,g5,g6,g7⟩:a≠1/\a≠2/\a≠3/\a≠4/\a≠5/\a≠6/\a≠7:=by omega
  have hO:Qu a=false:=by unfold Qu;rw[decide_eq_false_iff_not];omega
  rw[hO]
  have d1:decide (a=1)=false:=by simpa using g1
  have d2:decide (a=2)=false:=by simpa using g2
  have d3:decide (a=3)=false:=by simpa using g3
  have d4:decide (a=4)=false:=by simpa using g4
  have d5:decide (a=5)=false:=by simpa using g5
  have d6:decide (a=6)=false:=by simpa using g6
  have d7:decide (a=7)=false:=by simpa using g7
  have e1:(a==1)=false:=by simpa using g1
  have e2:(a==2)=false:=by simpa using g2
  have e3:(a==3)=false:=by simpa using g3
  have e4:(a==4)=false:=by simpa using g4
  have e5:(a==5)=false:=by simpa using g5
  have e6:(a==6)=false:=by simpa using g6
  have e7:(a==7)=false:=by simpa using g7
  clear hc
  go_enter Tryz.func104,Tryz.ntmps104
  go_wp2_with fail
  go_ret
  exact⟨rfl,Below.refl _ _⟩
theorem qW4 (a k:Int)(w:World):Calls Tryz.prog 149 #[.int .i64 a,.int .i64 k] w fun e w'=>e=.returned (.bool (actB a k))/\Below w.heap.size w w':=by
 by_cases hc:a=1∨a=2∨a=3∨a=4∨a=5∨a=6∨a=7
 ·rcases hc with rfl|rfl|rfl|rfl|rfl|rfl|rfl<;>
  (go_enter Tryz.func149,Tryz.ntmps149
   go_wp2_with fail
   go_ret
   exact⟨Qf (by unfold actB;simp;try (rw[Bool.eq_iff_iff];simp)),Below.refl _ _⟩)
 ·obtain⟨g1,g2,g3,g4,g5,g6,g7⟩:a≠1/\a≠2/\a≠3/\a≠4/\a≠5/\a≠6/\a≠7:=by omega
  have hO:actB a k=false:=by unfold actB;rw[if_neg (by omega),if_neg (by omega),if_neg (by omega),if_neg (by omega),decide_eq_false_iff_not];omega
  rw[hO]
  have d1:decide (a=1)=false:=by simpa using g1
  have d2:decide (a=2)=false:=by simpa using g2
  have d3:decide (a=3)=false:=by simpa using g3
  have d4:decide (a=4)=false:=by simpa using g4
  have d5:decide (a=5)=false:=by simpa using g5
  have d6:decide (a=6)=false:=by simpa using g6
  have d7:decide (a=7)=false:=by simpa using g7
  have e1:(a==1)=false:=by simpa using g1
  have e2:(a==2)=false:=by simpa using g2
  have e3:(a==3)=false:=by simpa using g3
  have e4:(a==4)=false:=by simpa using g4
  have e5:(a==5)=false:=by simpa using g5
  have e6:(a==6)=false:=by simpa using g6
  have e7:(a==7)=false:=by simpa using g7
  clear hc
  go_enter Tryz.func149,Tryz.ntmps149
  go_wp2_with fail
  go_ret
  exact⟨rfl,Below.refl _ _⟩
theorem qQz {k:ByteArray}(h:0<k.size):kindB k=if ((k[0].toNat:Int)==102)=true then 1 else if ((k[0].toNat:Int)==115)=true then 2 else if ((k[0].toNat:Int)==99)=true then 3 else if ((k[0].toNat:Int)==114)=true then 4 else if ((k[0].toNat:Int)==109)=true then 5 else 0:=by
 obtain⟨⟨l⟩⟩:=k
 cases l with
 |nil=>exact absurd h (by decide)
 |cons b r=>
  have hb:∀ n:UInt8,(((b.toNat:Int)==((n.toNat:Nat):Int))=true)=(b=n):=fun n=>by rw[eq_iff_iff,beq_iff_eq];exact⟨fun h=>UInt8.toNat_inj.1 (by omega),fun h=>by rw[h]⟩
  have e0:(ByteArray.mk ⟨b :: r⟩)[0]=b:=rfl
  have h1:=hb 102
  have h2:=hb 115
  have h3:=hb 99
  have h4:=hb 114
  have h5:=hb 109
  rw[e0]
  unfold kindB
  simp only[show ((102:UInt8).toNat:Int)=102 from rfl,show ((115:UInt8).toNat:Int)=115 from rfl,show ((99:UInt8).toNat:Int)=99 from rfl,show ((114:UInt8).toNat:Int)=114 from rfl,show ((109:UInt8).toNat:Int)=109 from rfl]at h1 h2 h3 h4 h5
  simp only[h1,h2,h3,h4,h5]
theorem qY4 {k:ByteArray}(h:¬0<k.size):kindB k=0:=by
 obtain⟨⟨l⟩⟩:=k
 cases l with
 |nil=>rfl
 |cons b r=>exact absurd (show 0<(b :: r).length by simp) h
theorem Kt {k:ByteArray}(h:0<k.size):k.toList.isEmpty=false:=by
 rw[ByteArray.toList_eq]
 obtain⟨⟨l⟩⟩:=k
 cases l with
 |nil=>exact absurd h (by decide)
 |cons b r=>rfl
theorem Ku {k:ByteArray}(h:¬0<k.size):k.toList.isEmpty=true:=by
 rw[ByteArray.toList_eq]
 obtain⟨⟨l⟩⟩:=k
 cases l with
 |nil=>rfl
 |cons b r=>exact absurd (show 0<(b :: r).length by simp) h
theorem Q2 (k:ByteArray)(w:World) :
  Calls Tryz.prog 84 #[.string k] w fun e w'=>e=.returned (.int .i64 (kindB k))/\Below w.heap.size w w':=by
 by_cases h0:0<k.size
 ·have HK:=hid (qQz h0)
  have he:k.toList.isEmpty=false:=Kt h0
  go_enter Tryz.func84,Tryz.ntmps84
  go_wp2_with fail
  all_goals (go_ret;exact⟨Qn (by rw[HK.out];simp_all),Below.refl _ _⟩)
 ·rw[qY4 h0]
  have he:k.toList.isEmpty=true:=Ku h0
  go_enter Tryz.func84,Tryz.ntmps84
  go_wp2_with fail
  all_goals (go_ret;exact⟨rfl,Below.refl _ _⟩)
theorem zXy (x:ByteArray)(w:World)(hx:x.size<=Big):Calls Tryz.prog 126 #[.string x] w fun e w'=>e=.returned (.bool (Q3 x))/\Below w.heap.size w w':=by
 unfold Big at hx
 go_enter Tryz.func126,Tryz.ntmps126
 by_cases hb:30<x.size
 ·go_wp2_with fail
  go_ret
  exact⟨Qf (by unfold Q3;simp[hb]),Below.refl _ _⟩
 ·go_wp2_with fail
  refine (Q2 x _).mono ?_
  rintro e w1 ⟨rfl,hb1⟩
  go_wp2_with fail
  go_ret
  exact⟨Qf (by unfold Q3;rw[Bool.eq_iff_iff];simp[hb];omega),hb1⟩
theorem zXz (x:ByteArray)(w:World):Calls Tryz.prog 127 #[.string x] w fun e w'=>e=.returned (.bool (noMap x))/\Below w.heap.size w w':=by
 go_enter Tryz.func127,Tryz.ntmps127
 go_wp2_with fail
 refine (Q2 x _).mono ?_
 rintro e w1 ⟨rfl,hb1⟩
 go_wp2_with fail
 go_ret
 exact⟨Qf (by unfold noMap;rw[Bool.eq_iff_iff];simp),hb1⟩
theorem zQ4 (w:World):JR 126 #[] Q3 w:=⟨enters_of Tryz.func126 (by kernel_rfl) rfl,fun x W hx _=>zXy x W hx⟩
theorem zQ5 (w:World):JR 127 #[] noMap w:=⟨enters_of Tryz.func127 (by kernel_rfl) rfl,fun x W _ _=>zXz x W⟩
theorem XQ (p:List ByteArray)(vp:Value)(w:World)(h:SlP w w.heap.size 1 StE vp p) :
  Calls Tryz.prog 82 #[vp] w fun e w'=>e=.returned (.int .i64 (pathI p))/\Below w.heap.size w w':=by
 have HC:Hid (∀ w',Below w.heap.size w w'->SlP w' w'.heap.size 1 StE vp p):=fun w' hb=>h.imp hb hb.size fun _ _ _ h=>h
 obtain⟨A,c,rfl,c1,c2,_⟩:=h
 unfold Big at c2
 go_enter Tryz.func82,Tryz.ntmps82
 by_cases h1:p.length<1
 ·have hP:pathI p=1:=by unfold pathI;rw[if_pos (.inl h1)]
  rw[hP]
  clear hP
  go_wp2_with fail
  go_ret
  exact⟨rfl,Below.refl _ _⟩
 by_cases h3:3<p.length
 ·have hP:pathI p=1:=by unfold pathI;rw[if_pos (.inr (.inl h3))]
  rw[hP]
  clear hP
  go_wp2_with fail
  go_ret
  exact⟨rfl,Below.refl _ _⟩
 go_wp2_with fail
 refine (X4 Q3 _ #[] p _ _ (HC.out _ (Below.refl _ _)) (zQ4 _)).mono ?_
 cases hq:p.any Q3
 ·rintro e w1 ⟨rfl,hb1⟩
  have hP:pathI p=if p.dropLast.any noMap then 6 else 0:=by unfold pathI;rw[if_neg (by rintro (h|h|h)<;>first|omega|(rw[hq]at h;cases h))]
  have HPI:=hid hP
  have HP:Hid (SlP w1 w1.heap.size 1 StE (.slice A (p.length-1) c) p.dropLast):=by
   rw[List.dropLast_eq_take]
   exact (HC.out _ hb1).takeK (by omega)
  clear hP hq
  go_wp2_with fail
  refine (X4 noMap _ #[] p.dropLast _ _ HP.out (zQ5 _)).mono ?_
  cases hn:p.dropLast.any noMap
  ·rintro e w2 ⟨rfl,hb2⟩
   have HN:=hid hn
   clear hn
   go_wp2_with fail
   go_ret
   exact⟨Qn (by rw[HPI.out,HN.out];rfl),hb1.trans (hb2.mono hb1.size)⟩
  ·rintro e w2 ⟨rfl,hb2⟩
   have HN:=hid hn
   clear hn
   go_wp2_with fail
   go_ret
   exact⟨Qn (by rw[HPI.out,HN.out];rfl),hb1.trans (hb2.mono hb1.size)⟩
 ·rintro e w1 ⟨rfl,hb1⟩
  have hP:pathI p=1:=by unfold pathI;rw[if_pos (.inr (.inr hq))]
  have HPI:=hid hP
  clear hP hq
  go_wp2_with fail
  go_ret
  exact⟨Qn HPI.out.symm,hb1⟩
theorem Zf {path:List ByteArray}{act n:Int}{s:ByteArray}(hp:pathI path=0)(ha:actB act (kindB (lastK path))=true):opI ⟨path,act,s,n⟩=if opTxt ⟨path,act,s,n⟩&&opNum ⟨path,act,s,n⟩ then 0 else 1:=by
 unfold opI
 simp only
 rw[if_neg (by omega),ha];rfl
theorem ZV (s:ByteArray):(s.toList=[])=(s.size=0):=by
 rw[eq_iff_iff]
 by_cases h:s.size=0
 ·have:=Ku (k:=s) (by omega);rw[List.isEmpty_iff]at this;simp[this,h]
 ·have:=Kt (k:=s) (by omega);rw[←Bool.not_eq_true,List.isEmpty_iff]at this;exact⟨fun e=>absurd e this,fun e=>absurd e h⟩
theorem tol_f (s:ByteArray):(s.toList.isEmpty=false)=(s.size≠0):=by rw[←Bool.not_eq_true,List.isEmpty_iff,ZV]
theorem tol_t (s:ByteArray):(s.toList.isEmpty=true)=(s.size=0):=by rw[List.isEmpty_iff,ZV]
theorem qW5 (o:Opr)(vp:Value)(w:World)(h:SlP w w.heap.size 1 StE vp o.path)(ho:o.Ok) :
  Calls Tryz.prog 97 #[.agg #[vp,.int .i64 o.act,.string o.s,.int .i64 o.n]] w fun e w'=>e=.returned (.int .i64 (opI o))/\Below w.heap.size w w':=by
 have HC:Hid (∀ w',Below w.heap.size w w'->SlP w' w'.heap.size 1 StE vp o.path):=fun w' hb=>h.imp hb hb.size fun _ _ _ h=>h
 obtain⟨A,c,rfl,c1,c2,c3⟩:=h
 have hs:=ho.s
 unfold Big at c2 hs
 obtain⟨path,act,s,n⟩:=o
 simp only at HC c1 c2 c3 hs ⊢
 have HX:Hid (∀ W,Below (w.heap.size+1) (w.alloc (.cells #[.slice A path.length c,.int .i64 act,.string s,.int .i64 n] 65)) W->(Below w.heap.size w W/\SlP W W.heap.size 1 StE (.slice A path.length c) path/\W.cell? ⟨w.heap.size,0,none⟩=some (.slice A path.length c)/\W.cell? ⟨w.heap.size,1,none⟩=some (.int .i64 act)/\W.cell? ⟨w.heap.size,2,none⟩=some (.string s)/\W.cell? ⟨w.heap.size,3,none⟩=some (.int .i64 n))):=fun W hW=>by
  have g0:W.heap[w.heap.size]?=some (.cells #[.slice A path.length c,.int .i64 act,.string s,.int .i64 n] 65 (0,0)):=(hW.block _ (by omega)).trans (Qd rfl)
  have hB:Below w.heap.size w W:=((Below.refl _ w).alloc (Nat.le_refl _) _).trans (hW.mono (by omega))
  exact⟨hB,HC.out _ hB,Qa (i:=0) g0,Qa (i:=1) g0,Qa (i:=2) g0,Qa (i:=3) g0⟩
 go_enter Tryz.func97,Tryz.ntmps97
 go_wp2_with fail
 obtain⟨hB,hp,q0,q1,q2,q3⟩:=HX.out _ (Below.refl _ _)
 refine (XQ path _ _ hp).mono ?_
 rintro e w1 ⟨rfl,hb1⟩
 have hbx:Below (w.heap.size+1) (w.alloc (.cells #[.slice A path.length c,.int .i64 act,.string s,.int .i64 n] 65)) w1:=hb1.mono (by simp)
 have HB1:=hid hbx
 clear hB hp q0 q1 q2 q3 hb1 hbx
 obtain⟨hB,hp,q0,q1,q2,q3⟩:=HX.out _ HB1.out
 by_cases hpz:pathI path=0
 ·have hpl:=(QZ hpz).1
  have hpu:=(QZ hpz).2.1
  have HPZ:=hid hpz
  rw[hpz]
  clear hpz
  go_wp2_with fail
  refine (zY1 act _).mono ?_
  rintro e w2 ⟨rfl,hb2⟩
  have HB2:=hid (HB1.out.trans (hb2.mono (by have:=hB.size;have:=HB1.out.size;simp at this;omega)))
  clear hB hp q0 q1 q2 q3 hb2
  obtain⟨hB,hp,q0,q1,q2,q3⟩:=HX.out _ HB2.out
  rcases (show act=1∨act=2∨act=3∨act=4∨act=5∨act=6∨act=7∨(act≠1/\act≠2/\act≠3/\act≠4/\act≠5/\act≠6/\act≠7) by omega) with rfl|rfl|rfl|rfl|rfl|rfl|rfl|⟨g1,g2,g3,g4,g5,g6,g7⟩
  ·simp only[show ofI 1=1 from rfl]
   obtain⟨bq,offq,hAq,hbq,hcq⟩:=c3 (by rintro rfl;simp at hpl)
   cases hAq
   obtain⟨cs,⟨rfl,hok⟩,_,hu⟩:=hcq (path.length-1) _ (ZT hpl)
   have e0:=(hB.cell (p:=⟨bq,offq+(path.length-1),none⟩) hbq).trans (by simpa using hu 0 _ rfl)
   clear hu hcq c3
   go_wp2_with fail
   refine (Q2 (lastK path) _).mono ?_
   by_cases hk:kindB (lastK path)=1
   ·rw[hk]
    rintro e w3 ⟨rfl,hb3⟩
    have HA:Hid (actB 1 (kindB (lastK path))=true):=by unfold Hid actB;rw[hk];simp
    have HB3:=hid (HB2.out.trans (hb3.mono (by have:=hB.size;have:=HB2.out.size;simp at this;omega)))
    clear hB hp q0 q1 q2 q3 hb3 e0 hk
    obtain⟨hB,hp,q0,q1,q2,q3⟩:=HX.out _ HB3.out
    have HE:Hid (∀ (s:ByteArray) (n:Int),opI ⟨path,1,s,n⟩=if s.size=0/\n=0 then 0 else 1):=by
     intro s n
     rw[Zf HPZ.out HA.out]
     unfold opTxt opNum keyB
     simp
    go_wp2_with fail
    all_goals (go_ret;refine⟨Qn ?_,hB⟩;rw[HE.out])
    all_goals ((try simp only[ZV]at *);(try simp only[tol_f]at *);(try simp only[tol_t]at *))
    all_goals (first|(exfalso;omega)|(rw[if_pos (by omega)];done)|(rw[if_neg (by omega)];done))
   ·have hn:((1:Int)==kindB (lastK path))=false:=by simpa using fun h=>hk h.symm
    have HO:Hid (opI ⟨path,1,s,n⟩=6):=by unfold Hid opI;simp only;rw[if_neg (by rw[HPZ.out];simp),if_pos (by unfold actB;simp[hk])]
    rintro e w3 ⟨rfl,hb3⟩
    have hB3:=hB.trans (hb3.mono hB.size)
    clear hk
    go_wp2_with fail
    go_ret
    exact⟨Qn HO.out.symm,hB3⟩
  ·simp only[show ofI 2=1 from rfl]
   obtain⟨bq,offq,hAq,hbq,hcq⟩:=c3 (by rintro rfl;simp at hpl)
   cases hAq
   obtain⟨cs,⟨rfl,hok⟩,_,hu⟩:=hcq (path.length-1) _ (ZT hpl)
   have e0:=(hB.cell (p:=⟨bq,offq+(path.length-1),none⟩) hbq).trans (by simpa using hu 0 _ rfl)
   clear hu hcq c3
   go_wp2_with fail
   refine (Q2 (lastK path) _).mono ?_
   by_cases hk:kindB (lastK path)=1
   ·rw[hk]
    rintro e w3 ⟨rfl,hb3⟩
    have HA:Hid (actB 2 (kindB (lastK path))=true):=by unfold Hid actB;rw[hk];simp
    have HB3:=hid (HB2.out.trans (hb3.mono (by have:=hB.size;have:=HB2.out.size;simp at this;omega)))
    clear hB hp q0 q1 q2 q3 hb3 e0 hk
    obtain⟨hB,hp,q0,q1,q2,q3⟩:=HX.out _ HB3.out
    have HE:Hid (∀ (s:ByteArray) (n:Int),opI ⟨path,2,s,n⟩=if s.size=0/\n=0 then 0 else 1):=by
     intro s n
     rw[Zf HPZ.out HA.out]
     unfold opTxt opNum keyB
     simp
    go_wp2_with fail
    all_goals (go_ret;refine⟨Qn ?_,hB⟩;rw[HE.out])
    all_goals ((try simp only[ZV]at *);(try simp only[tol_f]at *);(try simp only[tol_t]at *))
    all_goals (first|(exfalso;omega)|(rw[if_pos (by omega)];done)|(rw[if_neg (by omega)];done))
   ·have hn:((1:Int)==kindB (lastK path))=false:=by simpa using fun h=>hk h.symm
    have HO:Hid (opI ⟨path,2,s,n⟩=6):=by unfold Hid opI;simp only;rw[if_neg (by rw[HPZ.out];simp),if_pos (by unfold actB;simp[hk])]
    rintro e w3 ⟨rfl,hb3⟩
    have hB3:=hB.trans (hb3.mono hB.size)
    clear hk
    go_wp2_with fail
    go_ret
    exact⟨Qn HO.out.symm,hB3⟩
  ·simp only[show ofI 3=2 from rfl]
   obtain⟨bq,offq,hAq,hbq,hcq⟩:=c3 (by rintro rfl;simp at hpl)
   cases hAq
   obtain⟨cs,⟨rfl,hok⟩,_,hu⟩:=hcq (path.length-1) _ (ZT hpl)
   have e0:=(hB.cell (p:=⟨bq,offq+(path.length-1),none⟩) hbq).trans (by simpa using hu 0 _ rfl)
   clear hu hcq c3
   go_wp2_with fail
   refine (Q2 (lastK path) _).mono ?_
   by_cases hk:kindB (lastK path)=2
   ·rw[hk]
    rintro e w3 ⟨rfl,hb3⟩
    have HA:Hid (actB 3 (kindB (lastK path))=true):=by unfold Hid actB;rw[hk];simp
    have HB3:=hid (HB2.out.trans (hb3.mono (by have:=hB.size;have:=HB2.out.size;simp at this;omega)))
    clear hB hp q0 q1 q2 q3 hb3 e0 hk
    obtain⟨hB,hp,q0,q1,q2,q3⟩:=HX.out _ HB3.out
    have HE:Hid (∀ (s:ByteArray) (n:Int),opI ⟨path,3,s,n⟩=if (1<=s.size/\s.size<=30)/\n=0 then 0 else 1):=by
     intro s n
     rw[Zf HPZ.out HA.out]
     unfold opTxt opNum keyB
     simp
    go_wp2_with fail
    all_goals (go_ret;refine⟨Qn ?_,hB⟩;rw[HE.out])
    all_goals ((try simp only[tol_f]at *);(try simp only[tol_t]at *))
    all_goals (first|(exfalso;omega)|(rw[if_pos (by omega)];done)|(rw[if_neg (by omega)];done))
   ·have hn:((2:Int)==kindB (lastK path))=false:=by simpa using fun h=>hk h.symm
    have HO:Hid (opI ⟨path,3,s,n⟩=6):=by unfold Hid opI;simp only;rw[if_neg (by rw[HPZ.out];simp),if_pos (by unfold actB;simp[hk])]
    rintro e w3 ⟨rfl,hb3⟩
    have hB3:=hB.trans (hb3.mono hB.size)
    clear hk
    go_wp2_with fail
    go_ret
    exact⟨Qn HO.out.symm,hB3⟩
  ·simp only[show ofI 4=2 from rfl]
   obtain⟨bq,offq,hAq,hbq,hcq⟩:=c3 (by rintro rfl;simp at hpl)
   cases hAq
   obtain⟨cs,⟨rfl,hok⟩,_,hu⟩:=hcq (path.length-1) _ (ZT hpl)
   have e0:=(hB.cell (p:=⟨bq,offq+(path.length-1),none⟩) hbq).trans (by simpa using hu 0 _ rfl)
   clear hu hcq c3
   go_wp2_with fail
   refine (Q2 (lastK path) _).mono ?_
   by_cases hk:kindB (lastK path)=2
   ·rw[hk]
    rintro e w3 ⟨rfl,hb3⟩
    have HA:Hid (actB 4 (kindB (lastK path))=true):=by unfold Hid actB;rw[hk];simp
    have HB3:=hid (HB2.out.trans (hb3.mono (by have:=hB.size;have:=HB2.out.size;simp at this;omega)))
    clear hB hp q0 q1 q2 q3 hb3 e0 hk
    obtain⟨hB,hp,q0,q1,q2,q3⟩:=HX.out _ HB3.out
    have HE:Hid (∀ (s:ByteArray) (n:Int),opI ⟨path,4,s,n⟩=if (1<=s.size/\s.size<=30)/\n=0 then 0 else 1):=by
     intro s n
     rw[Zf HPZ.out HA.out]
     unfold opTxt opNum keyB
     simp
    go_wp2_with fail
    all_goals (go_ret;refine⟨Qn ?_,hB⟩;rw[HE.out])
    all_goals ((try simp only[tol_f]at *);(try simp only[tol_t]at *))
    all_goals (first|(exfalso;omega)|(rw[if_pos (by omega)];done)|(rw[if_neg (by omega)];done))
   ·have hn:((2:Int)==kindB (lastK path))=false:=by simpa using fun h=>hk h.symm
    have HO:Hid (opI ⟨path,4,s,n⟩=6):=by unfold Hid opI;simp only;rw[if_neg (by rw[HPZ.out];simp),if_pos (by unfold actB;simp[hk])]
    rintro e w3 ⟨rfl,hb3⟩
    have hB3:=hB.trans (hb3.mono hB.size)
    clear hk
    go_wp2_with fail
    go_ret
    exact⟨Qn HO.out.symm,hB3⟩
  ·simp only[show ofI 5=3 from rfl]
   obtain⟨bq,offq,hAq,hbq,hcq⟩:=c3 (by rintro rfl;simp at hpl)
   cases hAq
   obtain⟨cs,⟨rfl,hok⟩,_,hu⟩:=hcq (path.length-1) _ (ZT hpl)
   have e0:=(hB.cell (p:=⟨bq,offq+(path.length-1),none⟩) hbq).trans (by simpa using hu 0 _ rfl)
   clear hu hcq c3
   go_wp2_with fail
   refine (Q2 (lastK path) _).mono ?_
   by_cases hk:kindB (lastK path)=3
   ·rw[hk]
    rintro e w3 ⟨rfl,hb3⟩
    have HA:Hid (actB 5 (kindB (lastK path))=true):=by unfold Hid actB;rw[hk];simp
    have HB3:=hid (HB2.out.trans (hb3.mono (by have:=hB.size;have:=HB2.out.size;simp at this;omega)))
    clear hB hp q0 q1 q2 q3 hb3 e0 hk
    obtain⟨hB,hp,q0,q1,q2,q3⟩:=HX.out _ HB3.out
    have HE:Hid (∀ (s:ByteArray) (n:Int),opI ⟨path,5,s,n⟩=if s.size=0/\-1099511627776<=n/\n<=1099511627776 then 0 else 1):=by
     intro s n
     rw[Zf HPZ.out HA.out]
     unfold opTxt opNum keyB
     simp
    go_wp2_with fail
    all_goals (go_ret;refine⟨Qn ?_,hB⟩;rw[HE.out])
    all_goals ((try simp only[ZV]at *);(try simp only[tol_f]at *);(try simp only[tol_t]at *))
    all_goals (first|(exfalso;omega)|(rw[if_pos (by omega)];done)|(rw[if_neg (by omega)];done))
   ·have hn:((3:Int)==kindB (lastK path))=false:=by simpa using fun h=>hk h.symm
    have HO:Hid (opI ⟨path,5,s,n⟩=6):=by unfold Hid opI;simp only;rw[if_neg (by rw[HPZ.out];simp),if_pos (by unfold actB;simp[hk])]
    rintro e w3 ⟨rfl,hb3⟩
    have hB3:=hB.trans (hb3.mono hB.size)
    clear hk
    go_wp2_with fail
    go_ret
    exact⟨Qn HO.out.symm,hB3⟩
  ·simp only[show ofI 6=4 from rfl]
   obtain⟨bq,offq,hAq,hbq,hcq⟩:=c3 (by rintro rfl;simp at hpl)
   cases hAq
   obtain⟨cs,⟨rfl,hok⟩,_,hu⟩:=hcq (path.length-1) _ (ZT hpl)
   have e0:=(hB.cell (p:=⟨bq,offq+(path.length-1),none⟩) hbq).trans (by simpa using hu 0 _ rfl)
   clear hu hcq c3
   go_wp2_with fail
   refine (Q2 (lastK path) _).mono ?_
   by_cases hk:kindB (lastK path)=4
   ·rw[hk]
    rintro e w3 ⟨rfl,hb3⟩
    have HA:Hid (actB 6 (kindB (lastK path))=true):=by unfold Hid actB;rw[hk];simp
    have HB3:=hid (HB2.out.trans (hb3.mono (by have:=hB.size;have:=HB2.out.size;simp at this;omega)))
    clear hB hp q0 q1 q2 q3 hb3 e0 hk
    obtain⟨hB,hp,q0,q1,q2,q3⟩:=HX.out _ HB3.out
    have HE:Hid (∀ (s:ByteArray) (n:Int),opI ⟨path,6,s,n⟩=if s.size<=30/\n=0 then 0 else 1):=by
     intro s n
     rw[Zf HPZ.out HA.out]
     unfold opTxt opNum keyB
     simp
    go_wp2_with fail
    all_goals (go_ret;refine⟨Qn ?_,hB⟩;rw[HE.out])
    skip
    all_goals (first|(exfalso;omega)|(rw[if_pos (by omega)];done)|(rw[if_neg (by omega)];done))
   ·have hn:((4:Int)==kindB (lastK path))=false:=by simpa using fun h=>hk h.symm
    have HO:Hid (opI ⟨path,6,s,n⟩=6):=by unfold Hid opI;simp only;rw[if_neg (by rw[HPZ.out];simp),if_pos (by unfold actB;simp[hk])]
    rintro e w3 ⟨rfl,hb3⟩
    have hB3:=hB.trans (hb3.mono hB.size)
    clear hk
    go_wp2_with fail
    go_ret
    exact⟨Qn HO.out.symm,hB3⟩
  ·simp only[show ofI 7=0 from rfl]
   have HA:Hid (actB 7 (kindB (lastK path))=true):=rfl
   have HE:Hid (∀ (s:ByteArray) (n:Int),opI ⟨path,7,s,n⟩=if s.size=0/\n=0 then 0 else 1):=by
    intro s n
    rw[Zf HPZ.out HA.out]
    unfold opTxt opNum keyB
    simp
   go_wp2_with fail
   all_goals (go_ret;refine⟨Qn ?_,hB⟩;rw[HE.out])
   all_goals ((try simp only[ZV]at *);(try simp only[tol_f]at *);(try simp only[tol_t]at *))
   all_goals (first|(exfalso;omega)|(rw[if_pos (by omega)];done)|(rw[if_neg (by omega)];done))
  ·have hO:ofI act=-1:=by unfold ofI;rw[if_neg (by omega),if_neg (by omega),if_neg (by omega),if_neg (by omega),if_neg (by omega)]
   rw[hO]
   have HO:Hid (opI ⟨path,act,s,n⟩=6):=by
    unfold Hid opI;simp only
    rw[if_neg (by rw[HPZ.out];simp),if_pos]
    unfold actB
    rw[if_neg (by omega),if_neg (by omega),if_neg (by omega),if_neg (by omega)]
    simp[g7]
   go_wp2_with fail
   go_ret
   exact⟨Qn HO.out.symm,hB⟩
 ·have hO:Hid (opI ⟨path,act,s,n⟩=pathI path):=by unfold Hid opI;simp only;rw[if_pos hpz]
  have hne:(pathI path==0)=false:=by simpa using hpz
  have hne':(pathI path != 0)=true:=by simpa using hpz
  clear hpz
  go_wp2_with fail
  go_ret
  exact⟨Qn hO.out.symm,hB⟩
def CaE (w:World)(B:Nat)(x:Tr×List Sp)(cs:List Value):Prop:=∃ ve vk vc,cs=[ve,vk,vc]/\x.1.rd w B ve vk/\SlP w B 3 SpE vc x.2
theorem zX0 {t:Tr}{c:List Sp}(h:sml9 t c 40=true):t.sz<=40/\c.length<=40:=by
 unfold sml9 at h
 rw[Bool.and_eq_true]at h
 have h1:=zYt h.1
 have h2:=of_decide_eq_true h.2
 omega
theorem Calls.boolEq {P:Program}{f:FuncId}{args:Array Value}{w:World}{b c:Bool}(h:Calls P f args w fun e w'=>e=.returned (.bool b)/\Below w.heap.size w w')(hb:b=c):Calls P f args w fun e w'=>e=.returned (.bool c)/\Below w.heap.size w w':=hb▸h
end Go.Proofs.YtbcoelggdikipaaGreat
