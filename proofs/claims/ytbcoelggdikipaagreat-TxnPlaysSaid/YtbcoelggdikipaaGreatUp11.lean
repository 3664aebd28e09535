/- What the laws need. No condition but those that each lemma states. -/
import Derived.Test.YtbcoelggdikipaaGreatUp10
import Derived.Test.YtbcoelggdikipaaGreatUp9
import Derived.Test.YtbcoelggdikipaaGreatUp1
import Derived.Test.YtbcoelggdikipaaGreatUp6
import Derived.Test.YtbcoelggdikipaaGreatUp8
import Derived.Test.YtbcoelggdikipaaGreatUp2
import Derived.Test.YtbcoelggdikipaaGreatUp5
set_option maxRecDepth 100000
set_option maxHeartbeats 8000000
set_option linter.unusedSimpArgs false
namespace Go.Proofs.YtbcoelggdikipaaGreat
open Go.RowKit
structure Ev where
 d:Dt
 o:Opr
 seen:List Sp
 deriving DecidableEq,Inhabited
def visL (l:List Ev)(c:List Sp):List Ev:=l.filter fun x=>hasC c x.d
def undB (d:Dt)(o:Opr)(x:Ev):Bool:=!(hasC x.seen d&&undoB x.o o)
def Zg (l:List Ev)(e:Ev):Bool:=Qu e.o.act&&l.all (undB e.d e.o)
structure Lw (l:List Ev):Prop where
 op:∀ e∈l,OpOk e.o
 nd:(l.map (·.d)).Nodup
 rt:∀ e∈l,e.d.right=true
 seen:∀ e∈l,∀ d,hasC e.seen d=true->∃ x∈l,x.d=d
structure Kw (l:List Ev)(x:Kn):Prop where
 ok:KOk x
 inn:∀ d,hasC x.2 d=true->∃ e∈l,e.d=d
 clo:∀ e∈l,hasC x.2 e.d=true->∀ d,hasC e.seen d=true->hasC x.2 d=true
 st:∀ e∈l,∀ p,stE x.1 p e.d=if hasC x.2 e.d=true/\Zg (visL l x.2) e=true/\p=endP e.o then some (entE e.o e.d) else none
theorem Lw.nil:Lw []:=⟨fun _ h=>(by cases h),.nil,fun _ h=>(by cases h),fun _ h=>(by cases h)⟩
theorem Kw.nil:Kw [] kn0:=⟨qQq,fun d h=>(by rw[show kn0.2=[] from rfl,XG]at h;cases h),fun _ h=>(by cases h),fun _ h=>(by cases h)⟩
theorem Lw.one {l:List Ev}(h:Lw l){e f:Ev}(he:e∈l)(hf:f∈l)(hd:e.d=f.d):e=f:=zZu h.nd e he f hf hd
theorem Kh {l:List Ev}{e:Ev}(h:Zg l e=true):Qu e.o.act=true:=by unfold Zg at h;rw[Bool.and_eq_true]at h;exact h.1
theorem Kw.none' {l:List Ev}{x:Kn}(h:Kw l x){d:Dt}(hd:hasC x.2 d=false)(p:List ByteArray):stE x.1 p d=none:=by
 cases hs:stE x.1 p d with
 |none=>rfl
 |some y=>have h1:hasC x.2 d=true:=(Q9 h.ok hs).1;rw[h1]at hd;cases hd
theorem Kw.some' {l:List Ev}{x:Kn}(h:Kw l x){p:List ByteArray}{d:Dt}{y:En}(hs:stE x.1 p d=some y):∃ e∈l,e.d=d/\hasC x.2 e.d=true/\Zg (visL l x.2) e=true/\p=endP e.o/\y=entE e.o e.d:=by
 have hh:=(Q9 h.ok hs).1
 obtain⟨e,he,rfl⟩:=h.inn d hh
 rw[h.st e he]at hs
 split at hs
 ·rename_i hc
  cases hs
  exact⟨e,he,rfl,hc.1,hc.2.1,hc.2.2,rfl⟩
 ·cases hs
theorem ZX {α:Type}(p q:α->Bool):∀ l:List α,(l.filter p).all q=l.all fun x=>!p x||q x
 |[]=>rfl
 |x :: l=>by
  rw[List.filter_cons,List.all_cons]
  cases h:p x
  ·simp[ZX p q l]
  ·simp[ZX p q l]
theorem qYv {α:Type}(p q:α->Bool):∀ l:List α,(l.all fun x=>p x&&q x)=(l.all p&&l.all q)
 |[]=>rfl
 |x :: l=>by
  rw[List.all_cons,List.all_cons,List.all_cons,qYv p q l]
  cases p x<;>cases q x<;>cases l.all p<;>cases l.all q<;>rfl
theorem K9 {α:Type}{p q:α->Bool}:∀ {l:List α},(∀ x∈l,p x=q x)->l.all p=l.all q
 |[],_=>rfl
 |x :: l,h=>by rw[List.all_cons,List.all_cons,h x (by simp),K9 fun y hy=>h y (by simp[hy])]
theorem zQs {l:List Ev}{a b c:List Sp}{e:Ev}(hc:∀ x∈l,hasC c x.d=(hasC a x.d||hasC b x.d)):Zg (visL l c) e=(Zg (visL l a) e&&Zg (visL l b) e):=by
 unfold Zg visL
 rw[ZX,ZX,ZX]
 have h1:(l.all fun x=>!hasC c x.d||undB e.d e.o x)=((l.all fun x=>!hasC a x.d||undB e.d e.o x)&&(l.all fun x=>!hasC b x.d||undB e.d e.o x)):=by
  rw[←qYv]
  exact K9 fun x hx=>by rw[hc x hx];cases hasC a x.d<;>cases hasC b x.d<;>cases undB e.d e.o x<;>rfl
 rw[h1]
 cases Qu e.o.act<;>cases (l.all fun x=>!hasC a x.d||undB e.d e.o x)<;>rfl
theorem Kw.stand_no {l:List Ev}{x:Kn}(h:Kw l x){e:Ev}(hd:hasC x.2 e.d=false):Zg (visL l x.2) e=Qu e.o.act:=by
 unfold Zg
 have h1:(visL l x.2).all (undB e.d e.o)=true:=by
  rw[List.all_eq_true]
  intro y hy
  obtain⟨hy1,hy2⟩:=List.mem_filter.1 hy
  unfold undB
  cases hs:hasC y.seen e.d
  ·rfl
  ·have:=h.clo y hy1 hy2 _ hs
   rw[this]at hd;cases hd
 rw[h1,Bool.and_true]
theorem Kw.join {l:List Ev}{a b:Kn}(ha:Kw l a)(hb:Kw l b):Kw l (jn a b):=by
 have hhas:∀ d,hasC (jn a b).2 d=(hasC a.2 d||hasC b.2 d):=J9 ha.ok hb.ok
 refine⟨qQr ha.ok hb.ok,fun d hd=>?_,fun e he hd d hs=>?_,fun e he p=>?_⟩
 ·rw[hhas,Bool.or_eq_true]at hd
  exact hd.elim (ha.inn d) (hb.inn d)
 ·rw[hhas,Bool.or_eq_true]at hd ⊢
  exact hd.elim (fun h=>.inl (ha.clo e he h d hs)) (fun h=>.inr (hb.clo e he h d hs))
 ·have hst:=zQs (l:=l) (e:=e) (c:=(jn a b).2) fun x _=>hhas x.d
  rw[jn_st ha.ok hb.ok,hst,hhas,ha.st e he,hb.st e he]
  cases h1:hasC a.2 e.d
  ·have n1:=ha.stand_no h1
   cases h2:hasC b.2 e.d
   ·simp[jnO]
   ·rw[n1]
    cases h3:Zg (visL l b.2) e
    ·simp[jnO]
    ·have h4:=Kh h3
     rw[h4]
     by_cases hp:p=endP e.o
     ·simp[jnO,hp]
     ·simp[jnO,hp]
  ·cases h2:hasC b.2 e.d
   ·rw[hb.stand_no h2]
    cases h3:Zg (visL l a.2) e
    ·simp[jnO]
    ·have h4:=Kh h3
     rw[h4]
     by_cases hp:p=endP e.o
     ·simp[jnO,hp]
     ·simp[jnO,hp]
   ·cases h3:Zg (visL l a.2) e<;>cases h4:Zg (visL l b.2) e
    ·simp[jnO]
    ·by_cases hp:p=endP e.o<;>simp[jnO,hp]
    ·by_cases hp:p=endP e.o<;>simp[jnO,hp]
    ·by_cases hp:p=endP e.o
     ·simp[jnO,hp,zQk]
     ·simp[jnO,hp]
theorem Kw.seesIn {l:List Ev}{x:Kn}(h:Kw l x){o:Opr}{d:Dt}(hd:d∈seesD x.1 o):hasC x.2 d=true:=by
 obtain⟨q,e,h1,rfl⟩:=qWn h.ok.ord hd
 exact h.ok.has _ h1
theorem Lw.more {l:List Ev}{x:Kn}(hl:Lw l)(h:Kw l x){o:Opr}{d:Dt}(ha:appI x.1 o d=0)(hf:∀ e∈l,e.d≠d):Lw (l++[⟨d,o,x.2⟩]):=by
 obtain⟨_,h2,h3,_⟩:=Kf ha
 obtain⟨_,g2,_⟩:=Zx h3
 refine⟨fun e he=>?_,?_,fun e he=>?_,fun e he z hz=>?_⟩
 ·rcases List.mem_append.1 he with he|he
  ·exact hl.op e he
  ·simp at he;subst he;exact h2
 ·rw[List.map_append,List.nodup_append]
  refine⟨hl.nd,by simp,fun a ha' b hb=>?_⟩
  obtain⟨e,he,rfl⟩:=List.mem_map.1 ha'
  simp at hb
  subst hb
  exact hf e he
 ·rcases List.mem_append.1 he with he|he
  ·exact hl.rt e he
  ·simp at he;subst he;exact g2
 ·rcases List.mem_append.1 he with he|he
  ·obtain⟨y,hy,e1⟩:=hl.seen e he z hz
   exact⟨y,by simp[hy],e1⟩
  ·simp at he;subst he
   obtain⟨y,hy,e1⟩:=h.inn z hz
   exact⟨y,by simp[hy],e1⟩
theorem zQt {l:List Ev}{c:List Sp}{e:Ev}(h:hasC c e.d=false):visL (l++[e]) c=visL l c:=by unfold visL;rw[List.filter_append];simp[h]
theorem Kw.other {l:List Ev}{x:Kn}(h:Kw l x){e:Ev}(hf:∀ y∈l,y.d≠e.d):Kw (l++[e]) x:=by
 have hno:hasC x.2 e.d=false:=by
  cases hh:hasC x.2 e.d
  ·rfl
  ·obtain⟨y,hy,e1⟩:=h.inn _ hh;exact absurd e1 (hf y hy)
 refine⟨h.ok,fun d hd=>?_,fun y hy hd d hs=>?_,fun y hy p=>?_⟩
 ·obtain⟨y,hy,e1⟩:=h.inn d hd;exact⟨y,by simp[hy],e1⟩
 ·rcases List.mem_append.1 hy with hy|hy
  ·exact h.clo y hy hd d hs
  ·simp at hy;subst hy;rw[hno]at hd;cases hd
 ·rw[zQt hno]
  rcases List.mem_append.1 hy with hy|hy
  ·exact h.st y hy p
  ·simp at hy;subst hy
   rw[h.none' hno,hno];simp
theorem Kw.made {l:List Ev}{x:Kn}(hl:Lw l)(h:Kw l x){o:Opr}{d:Dt}(ha:appI x.1 o d=0)(hf:∀ e∈l,e.d≠d):Kw (l++[⟨d,o,x.2⟩]) (jn x (appT x.1 o d,appC x.1 o d)):=by
 obtain⟨h1,h2,h3,_⟩:=Kf ha
 obtain⟨g1,g2,g3⟩:=Zx h3
 have hX:KOk (appT x.1 o d,appC x.1 o d):=(QW ha).1
 have hno:hasC x.2 d=false:=by
  cases hh:hasC x.2 d
  ·rfl
  ·obtain⟨y,hy,e1⟩:=h.inn _ hh;exact absurd e1 (hf y hy)
 have hhas:∀ z,hasC (jn x (appT x.1 o d,appC x.1 o d)).2 z=(hasC x.2 z||decide (z=d)):=fun z=>by
  rw[J9 h.ok hX]
  simp only
  rw[Kg ha]
  by_cases h4:z∈seesD x.1 o
  ·rw[h.seesIn h4];simp
  ·simp[h4]
 refine⟨qQr h.ok hX,fun z hz=>?_,fun e he hd z hs=>?_,fun e he p=>?_⟩
 ·rw[hhas,Bool.or_eq_true,decide_eq_true_eq]at hz
  rcases hz with hz|rfl
  ·obtain⟨y,hy,e1⟩:=h.inn z hz;exact⟨y,by simp[hy],e1⟩
  ·exact⟨⟨z,o,x.2⟩,by simp,rfl⟩
 ·rw[hhas,Bool.or_eq_true]
  rcases List.mem_append.1 he with he|he
  ·rw[hhas,decide_eq_false (hf e he),Bool.or_false]at hd
   exact .inl (h.clo e he hd z hs)
  ·simp at he;subst he;exact .inl hs
 ·have hvis:visL (l++[⟨d,o,x.2⟩]) (jn x (appT x.1 o d,appC x.1 o d)).2=visL l x.2++[⟨d,o,x.2⟩]:=by
   unfold visL
   rw[List.filter_append]
   congr 1
   ·exact List.filter_congr fun y hy=>by rw[hhas,decide_eq_false (hf y hy),Bool.or_false]
   ·simp[hhas]
  have hstd:Zg (visL l x.2++[⟨d,o,x.2⟩]) e=(Zg (visL l x.2) e&&undB e.d e.o ⟨d,o,x.2⟩):=by
   unfold Zg
   rw[List.all_append]
   simp[Bool.and_assoc]
  rw[hvis,hstd,jn_st h.ok hX,hhas]
  simp only
  rw[zZv ha]
  rcases List.mem_append.1 he with he|he
  ·have hne:=hf e he
   rw[if_neg (by rintro⟨_,_,e1⟩;exact hne e1),decide_eq_false hne,Bool.or_false,h.st e he]
   have hu:undB e.d e.o ⟨d,o,x.2⟩ = !(hasC x.2 e.d&&undoB o e.o):=rfl
   rw[hu]
   by_cases hc:hasC x.2 e.d=true/\Zg (visL l x.2) e=true/\p=endP e.o
   ·have hs:=h.st e he p
    rw[if_pos hc]at hs
    obtain⟨m1,m2⟩:=(QA h.ok.ord).1 hs
    have hsu:e.d∈seesD x.1 o↔undoB o e.o=true:=by
     refine qWr h.ok.ord h2 (hl.op e he) (Kh hc.2.1) (y:=entE e.o e.d) (by rw[←hc.2.2];exact m1) rfl fun p' z hz hzd=>?_
     have h5:stE x.1 p' e.d=some z:=(QA h.ok.ord).2 ⟨hz,hzd⟩
     rw[h.st e he]at h5
     split at h5
     ·rename_i h6;exact h6.2.2
     ·cases h5
    rw[if_pos hc,hc.1,hc.2.1]
    have hC:hasC (appC x.1 o d) e.d=undoB o e.o:=by
     rw[Kg ha,Bool.eq_iff_iff,decide_eq_true_eq,←hsu]
     exact⟨fun h=>h.resolve_left hne,.inr⟩
    rw[hC]
    cases hub:undoB o e.o
    ·simp[jnO,hc.2.2]
    ·simp[jnO]
   ·rw[if_neg hc,if_neg (fun ⟨q1,q2,q3⟩=>hc ⟨q1,by rw[Bool.and_eq_true]at q2;exact q2.1,q3⟩)]
    simp[jnO]
  ·simp at he
   subst he
   rw[h.none' hno,hno]
   have hall:Zg (visL l x.2) ⟨d,o,x.2⟩=Qu o.act:=h.stand_no hno
   have hu:undB d o ⟨d,o,x.2⟩=true:=by unfold undB;simp[hno]
   simp only[hall,hu]
   by_cases ha':Qu o.act=true<;>by_cases hp':p=endP o<;>simp[ha',hp',jnO]
theorem qWs:∀ t:Tr,t.Ord->(t.lvs []).Nodup:=by
 intro t
 induction t using Tr.ind with
 |h es ks ih=>
  intro ho
  obtain⟨o1,o2,o3⟩:=QS.1 ho
  rw[Tr.lvs,List.nodup_append]
  refine⟨?_,?_,?_⟩
  ·exact List.pairwise_map.2 (o1.imp fun {a b} h e=>by
    have:=(Prod.mk.inj e).2
    rw[this,Ja]at h;cases h)
  ·clear ho o1
   induction ks with
   |nil=>simp[Tr.lvsL]
   |cons x ks ih2=>
    obtain⟨k,u⟩:=x
    rw[Tr.lvsL,List.nodup_append]
    obtain⟨q1,q2⟩:=List.pairwise_cons.1 o2
    refine⟨?_,ih2 (fun k' t' h=>ih k' t' (by simp[h])) q2 (fun k' t' h=>o3 k' t' (by simp[h])),?_⟩
    ·rw[JH]
     have:=ih k u (by simp) (o3 k u (by simp)).2.2
     exact List.pairwise_map.2 (this.imp fun {a b} h e=>h (by
      simp only[List.nil_append,Prod.mk.injEq,List.append_cancel_left_eq]at e
      exact Prod.ext e.1 e.2))
    ·intro a ha b hb e
     subst e
     rw[JH,List.mem_map]at ha
     obtain⟨a',_,rfl⟩:=ha
     obtain⟨k',t',h1,h2⟩:=Vj.1 hb
     rw[JH,List.mem_map]at h2
     obtain⟨b',_,e2⟩:=h2
     have h3:=q1 _ h1
     simp only[List.nil_append,List.singleton_append,Prod.mk.injEq,List.cons.injEq]at e2
     rw[e2.1.1,Qz]at h3;cases h3
  ·intro a ha b hb e
   subst e
   obtain⟨x,_,rfl⟩:=List.mem_map.1 ha
   obtain⟨k',t',h1,h2⟩:=Vj.1 hb
   rw[JH,List.mem_map]at h2
   obtain⟨b',_,e2⟩:=h2
   simp at e2
theorem qWt:∀ t:Tr,t.Ord->∀ p:List ByteArray,t.sz+(t.lvs p).length*p.length<=((t.lvs p).map fun x=>x.1.length+1).sum:=by
 intro t
 induction t using Tr.ind with
 |h es ks ih=>
  intro ho p
  obtain⟨o1,o2,o3⟩:=QS.1 ho
  have h1:∀ es:List En,(es.map fun e=>((p,e):Lf)).map (fun x=>x.1.length+1)=es.map fun _=>p.length+1:=fun es=>by simp
  have h2:∀ es:List En,(es.map fun _=>p.length+1).sum=es.length*(p.length+1):=fun es=>by
   induction es with
   |nil=>simp
   |cons e es ih=>simp only[List.map_cons,List.sum_cons,ih,List.length_cons,Nat.add_mul];omega
  have h3:Tr.szL ks+(Tr.lvsL ks p).length*p.length<=((Tr.lvsL ks p).map fun x=>x.1.length+1).sum:=by
   clear ho o1 o2 h1 h2
   induction ks with
   |nil=>simp[Tr.szL,Tr.lvsL]
   |cons x ks ih2=>
    obtain⟨k,u⟩:=x
    obtain⟨c1,c2,c3⟩:=o3 k u (by simp)
    have e1:=ih k u (by simp) c3 (p++[k])
    have e2:=ih2 (fun k' t' h=>ih k' t' (by simp[h])) fun k' t' h=>o3 k' t' (by simp[h])
    obtain⟨y,hy⟩:=Xo u c3 c2
    have e3:1<=(u.lvs (p++[k])).length:=by
     rw[JH,List.length_map];exact List.length_pos_of_mem hy
    rw[Tr.szL,Tr.lvsL,List.map_append,List.sum_append,List.length_append]
    rw[List.length_append,List.length_singleton,Nat.mul_add,Nat.mul_one]at e1
    rw[Nat.add_mul]
    omega
  rw[Tr.sz,Tr.lvs,List.map_append,List.sum_append,List.length_append,h1,h2,List.length_map,Nat.add_mul]
  have:es.length*(p.length+1)=es.length*p.length+es.length:=by rw[Nat.mul_add,Nat.mul_one]
  omega
theorem zZw {α:Type}(f:α->Nat)(c:Nat):∀ (l:List α),(∀ x∈l,f x<=c)->(l.map f).sum<=l.length*c
 |[],_=>by simp
 |x :: l,h=>by
  have h1:=zZw f c l fun y hy=>h y (by simp[hy])
  have h2:=h x (by simp)
  simp only[List.map_cons,List.sum_cons,List.length_cons,Nat.add_mul];omega
theorem qWu:∀ (l:List (Int×Int)) (p:Option Int),runsR p l=true->(l.Pairwise fun a b=>a.1<b.1)/\∀ q,p=some q->∀ r∈l,q<r.1
 |[],_,_=>⟨.nil,fun _ _ _ h=>by cases h⟩
 |r :: l,p,h=>by
  obtain⟨h1,h2,h3⟩:=(Qo p r l).1 h
  obtain⟨i1,i2⟩:=qWu l _ h3
  have h4:=h1.2.1
  refine⟨List.pairwise_cons.2 ⟨fun b hb=>by have:=i2 _ rfl b hb;omega,i1⟩,fun q hq x hx=>?_⟩
  subst hq
  have h5:=of_decide_eq_true (show decide (q+1<r.1)=true from h2)
  rcases List.mem_cons.1 hx with rfl|hx
  ·omega
  ·have:=i2 _ rfl x hx;omega
theorem zXn {c:List Sp}(h:Qm c=true){D:List Dt}(hD:∀ d,hasC c d=true->d∈D):c.length<=D.length:=by
 have hd:=ZU c 0 (by unfold Qm at h;simp at h;exact h.1)
 have h1:(c.map fun s=>(⟨s.dc,s.fr⟩:Dt)).Nodup:=by
  refine List.pairwise_map.2 (List.pairwise_iff_getElem.2 fun i j hi hj hij e=>?_)
  simp only[Dt.mk.injEq]at e
  obtain⟨d1,d2⟩:=hd _ (List.getElem_mem hi)
  obtain⟨m,hm⟩:∃ m:Nat,(m:Int)=c[i].dc:=⟨c[i].dc.toNat,by omega⟩
  have h2:=(qWu _ _ (Qw h (i:=m) (by omega))).1
  unfold partL at h2
  rw[List.pairwise_map,List.pairwise_filter]at h2
  have h3:=List.pairwise_iff_getElem.1 h2 i j hi hj hij (by simp[hm]) (by simp[hm,e.1])
  simp only at h3
  omega
 have h2:=List.Nodup.length_le_of_subset h1 (l₂:=D) fun x hx=>by
  obtain⟨s,hs,rfl⟩:=List.mem_map.1 hx
  refine hD _ ?_
  obtain⟨d1,d2⟩:=hd s hs
  obtain⟨m,hm⟩:∃ m:Nat,(m:Int)=s.dc:=⟨s.dc.toNat,by omega⟩
  have hr:(s.fr,s.hi)∈partL c s.dc:=by unfold partL;exact List.mem_map.2 ⟨s,List.mem_filter.2 ⟨hs,by simp⟩,rfl⟩
  have h3:=Z4 h (i:=m) (by omega) (s.fr,s.hi) (by rw[hm];exact hr)
  unfold runOk at h3
  simp only at h3
  unfold hasC
  have h4:(⟨s.dc,s.fr⟩:Dt).right=true:=by rw[←hm];exact qYg (by omega) (by omega)
  rw[h4,Bool.true_and]
  unfold hasL
  rw[List.any_eq_true]
  exact⟨_,hr,by unfold inR;simp;omega⟩
 rwa [List.length_map]at h2
theorem Kw.size {l:List Ev}{x:Kn}(h:Kw l x):x.1.sz<=5*l.length/\x.2.length<=l.length:=by
 constructor
 ·have h1:=qWt x.1 h.ok.ord []
  have h2:((x.1.lvs []).map fun x=>x.1.length+1).sum<=(x.1.lvs []).length*5:=zZw _ 5 _ fun y hy=>by
   have:=(h.ok.leaf y hy).1;omega
  have h3:((x.1.lvs []).map fun x=>x.2.dot).length<=(l.map (·.d)).length:=by
   refine List.Nodup.length_le_of_subset ?_ fun z hz=>?_
   ·refine List.pairwise_map.2 ((qWs x.1 h.ok.ord).imp_of_mem fun {a b} ha hb hn e=>hn ?_)
    have s1:stE x.1 a.1 a.2.dot=some a.2:=(QA h.ok.ord).2 ⟨ha,rfl⟩
    have s2:stE x.1 b.1 a.2.dot=some b.2:=(QA h.ok.ord).2 ⟨hb,e.symm⟩
    obtain⟨e1,m1,n1,_,_,p1,q1⟩:=h.some' s1
    rw[←n1,h.st e1 m1]at s2
    split at s2
    ·rename_i hc
     have e3:=Option.some.inj s2
     exact Prod.ext (by rw[p1,hc.2.2]) (by rw[q1,e3])
    ·cases s2
   ·obtain⟨y,hy,rfl⟩:=List.mem_map.1 hz
    obtain⟨e,he,hd⟩:=h.inn _ (h.ok.has y hy)
    exact List.mem_map.2 ⟨e,he,hd⟩
  rw[List.length_map,List.length_map]at h3
  simp only[List.length_nil,Nat.mul_zero,Nat.add_zero]at h1
  omega
 ·have:=zXn h.ok.ap (D:=l.map (·.d)) fun d hd=>by
   obtain⟨e,he,e1⟩:=h.inn d hd
   exact List.mem_map.2 ⟨e,he,e1⟩
  rwa [List.length_map]at this
def EvA (w:World)(ok:Nat->Prop)(e:Ev)(cs:List Value):Prop:=
 ∃ A c A' c',cs=[.int .i64 e.d.dc,.int .i64 e.d.n,.slice A e.o.path.length c,.int .i64 e.o.act,.string e.o.s,.int .i64 e.o.n,.slice A' e.seen.length c']/\SlA w ok 1 StE (.slice A e.o.path.length c) e.o.path/\SlA w ok 3 SpE (.slice A' e.seen.length c') e.seen/\e.d.Ok/\e.o.Ok
theorem EvA.mon:Emon EvA where
 up:=fun hk ho ⟨A,c,A',c',h1,h2,h3,h4⟩=>⟨A,c,A',c',h1,h2.up hk ho fun _ _ _ h=>h,h3.up hk ho fun _ _ _ h=>h,h4⟩
 one:=by rintro w ok x cs ⟨A,c,A',c',rfl,_⟩;simp[Value.oneCell']
def EvL (w:World)(v:Value)(l:List Ev):Prop:=SlP w w.heap.size 7 (EvA w (fun b=>b<w.heap.size)) v l
theorem EvL.up {w w':World}{v:Value}{l:List Ev}(h:EvL w v l)(hb:Below w.heap.size w w'):EvL w' v l:=
 SlP.imp h hb hb.size fun _ _ _ hx=>EvA.mon.up (fun b hb'=>hb.block b hb') (fun _ hb'=>Nat.lt_of_lt_of_le hb' hb.size) hx
theorem EvL.at {w:World}{A:Option Addr}{n:Nat}{l:List Ev}(h:EvL w (.slice A l.length n) l){k:Nat}{x:Ev}(hx:l[k]?=some x) :
  ∃ b off A5 c5 A6 c6,A=some ⟨b,off,none⟩/\b<w.heap.size/\SlP w w.heap.size 1 StE (.slice A5 x.o.path.length c5) x.o.path/\SlP w w.heap.size 3 SpE (.slice A6 x.seen.length c6) x.seen/\x.d.Ok/\x.o.Ok /\
   ∀ W,Below w.heap.size w W->(W.cell? ⟨b,off+k*7,none⟩=some (.int .i64 x.d.dc)/\W.cell? ⟨b,off+k*7+1,none⟩=some (.int .i64 x.d.n)/\W.cell? ⟨b,off+k*7+2,none⟩=some (.slice A5 x.o.path.length c5)/\W.cell? ⟨b,off+k*7+3,none⟩=some (.int .i64 x.o.act)/\W.cell? ⟨b,off+k*7+4,none⟩=some (.string x.o.s)/\W.cell? ⟨b,off+k*7+5,none⟩=some (.int .i64 x.o.n)/\W.cell? ⟨b,off+k*7+6,none⟩=some (.slice A6 x.seen.length c6)):=by
 obtain⟨A',n',hv,_,_,h3⟩:=h
 cases hv
 obtain⟨b,off,rfl,hb,hc⟩:=h3 (by rintro rfl;simp at hx)
 obtain⟨cs,⟨A5,c5,A6,c6,rfl,hp,hs,hd,ho⟩,_,hu⟩:=hc k x hx
 exact⟨b,off,A5,c5,A6,c6,rfl,hb,hp,hs,hd,ho,fun W hW=>⟨(hW.cell hb).trans (hu 0 _ rfl),(hW.cell hb).trans (hu 1 _ rfl),(hW.cell hb).trans (hu 2 _ rfl),(hW.cell hb).trans (hu 3 _ rfl),(hW.cell hb).trans (hu 4 _ rfl),(hW.cell hb).trans (hu 5 _ rfl),(hW.cell hb).trans (hu 6 _ rfl)⟩⟩
theorem valsR {A:Tr}(h:A.right 5=true):Q1 A=sdL (txtL A):=by
 unfold Q1
 rw[if_pos h,sd_eq]
theorem qQy {u:Tr}(ho:u.Ord){k:ByteArray}:k∈u.ks.map (·.1)↔∃ q y,((k :: q,y):Lf)∈u.lvs []:=by
 obtain⟨es,ks⟩:=u
 rw[List.mem_map]
 constructor
 ·rintro⟨⟨k',t⟩,hm,rfl⟩
  obtain⟨_,h2,h3⟩:=(QS.1 ho).2.2 k' t hm
  obtain⟨⟨q,y⟩,hy⟩:=Xo t h3 h2
  exact⟨q,y,Qv.2 ⟨t,hm,hy⟩⟩
 ·rintro⟨q,y,h⟩
  obtain⟨t,hm,_⟩:=Qv.1 h
  exact⟨(k,t),hm,rfl⟩
structure SInv (l:List Ev)(n:Nat->Int)(K:Nat->Kn):Prop where
 lw:Lw l
 kw:∀ i,i<3->Kw l (K i)
 nn:∀ i,i<3->0<=n i/\n i<=l.length
 nm:∀ e∈l,∃ i:Nat,i<3/\e.d.dc=(i:Int)/\e.d.n<=n i
 some:∀ e∈l,∃ i,i<3/\hasC (K i).2 e.d=true
def setK {α:Type}(K:Nat->α)(i:Nat)(x:α):Nat->α:=fun j=>if j=i then x else K j
theorem qQz {α:Type}(K:Nat->α)(i:Nat)(x:α):setK K i x i=x:=if_pos rfl
theorem SInv.nil:SInv [] (fun _=>0) (fun _=>kn0):=⟨Lw.nil,fun _ _=>Kw.nil,fun _ _=>(by simp),fun _ h=>(by cases h),fun _ h=>(by cases h)⟩
theorem SInv.fresh {l:List Ev}{n:Nat->Int}{K:Nat->Kn}(h:SInv l n K){i:Nat}(hi:i<3):∀ e∈l,e.d≠⟨(i:Int),n i+1⟩:=fun e he e1=>by
 obtain⟨k,hk,h1,h2⟩:=h.nm e he
 rw[e1]at h1 h2
 simp only at h1 h2
 have:k=i:=by omega
 subst this
 omega
theorem SInv.make {l:List Ev}{n:Nat->Int}{K:Nat->Kn}(h:SInv l n K){i:Nat}(hi:i<3){o:Opr}(ha:appI (K i).1 o ⟨(i:Int),n i+1⟩=0) :
  SInv (l++[⟨⟨(i:Int),n i+1⟩,o,(K i).2⟩]) (setK n i (n i+1)) (setK K i (jn (K i) (appT (K i).1 o ⟨(i:Int),n i+1⟩,appC (K i).1 o ⟨(i:Int),n i+1⟩))):=by
 have hf:=h.fresh hi
 refine⟨h.lw.more (h.kw i hi) ha hf,fun k hk=>?_,fun k hk=>?_,fun e he=>?_,fun e he=>?_⟩
 ·unfold setK;split
  ·exact (h.kw i hi).made h.lw ha hf
  ·exact (h.kw k hk).other hf
 ·have h1:=h.nn k hk
  have h2:=h.nn i hi
  unfold setK
  rw[List.length_append,List.length_singleton]
  split
  ·push_cast;omega
  ·push_cast;omega
 ·rcases List.mem_append.1 he with he|he
  ·obtain⟨k,hk,h1,h2⟩:=h.nm e he
   refine⟨k,hk,h1,?_⟩
   unfold setK;split
   ·rename_i e1;subst e1;omega
   ·exact h2
  ·simp at he;subst he
   exact⟨i,hi,rfl,by rw[qQz];exact Int.le_refl _⟩
 ·have hX:KOk (appT (K i).1 o ⟨(i:Int),n i+1⟩,appC (K i).1 o ⟨(i:Int),n i+1⟩):=(QW ha).1
  rcases List.mem_append.1 he with he|he
  ·obtain⟨k,hk,hh⟩:=h.some e he
   refine⟨k,hk,?_⟩
   unfold setK;split
   ·rename_i e1
    subst e1
    rw[J9 (h.kw k hi).ok hX,hh];rfl
   ·exact hh
  ·simp at he;subst he
   refine⟨i,hi,?_⟩
   rw[qQz,J9 (h.kw i hi).ok hX]
   simp only
   rw[Kg ha];simp
theorem Kw.same {l:List Ev}{a b:Kn}(ha:Kw l a)(hb:Kw l b)(hc:a.2=b.2):a=b:=by
 obtain⟨a1,a2⟩:=a
 obtain⟨b1,b2⟩:=b
 simp only at hc
 subst hc
 have h:=CaOk.ext2 ha.ok hb.ok (fun p d=>?_) fun _=>rfl
 ·exact Prod.ext h.1 h.2
 ·cases hd:hasC a2 d
  ·rw[ha.none' hd,hb.none' hd]
  ·obtain⟨e,he,rfl⟩:=ha.inn d hd
   rw[ha.st e he,hb.st e he]
theorem SInv.all {l:List Ev}{n:Nat->Int}{K:Nat->Kn}(h:SInv l n K):Kw l (jnL [K 0,K 1,K 2])/\jnL [K 2,K 0,K 1]=jnL [K 0,K 1,K 2]/\visL l (jnL [K 0,K 1,K 2]).2=l:=by
 have h0:=h.kw 0 (by omega)
 have h1:=h.kw 1 (by omega)
 have h2:=h.kw 2 (by omega)
 have e1:jnL [K 0,K 1,K 2]=jn (jn (K 0) (K 1)) (K 2):=qWe h0.ok
 have hok:∀ x∈[K 2,K 0,K 1],KOk x:=fun x hx=>by
  simp at hx
  rcases hx with rfl|rfl|rfl
  ·exact h2.ok
  ·exact h0.ok
  ·exact h1.ok
 refine⟨by rw[e1];exact (h0.join h1).join h2,zQo (by
  refine List.Perm.trans (List.Perm.swap (K 0) (K 2) [K 1]) ?_
  exact List.Perm.cons _ (List.Perm.swap (K 1) (K 2) [])) hok,?_⟩
 unfold visL
 rw[List.filter_eq_self]
 intro e he
 obtain⟨k,hk,hh⟩:=h.some e he
 rw[e1,J9 (h0.join h1).ok h2.ok,J9 h0.ok h1.ok]
 rcases (show k=0∨k=1∨k=2 by omega) with rfl|rfl|rfl<;>simp[hh]
theorem z_new {w1 w7:World}{a:Array Value}{e:TypeId}(hb:Below (w1.alloc (.cells a e (0,0))).heap.size (w1.alloc (.cells a e (0,0))) w7):w7.heap[w1.heap.size]?=some (.cells a e (0,0)):=(hb.block _ (by simp)).trans (Qd rfl)
theorem zYn {w1 w7:World}{o:Obj}{a:Array Value}{e:TypeId}(hb:Below ((w1.alloc o).alloc (.cells a e (0,0))).heap.size ((w1.alloc o).alloc (.cells a e (0,0))) w7):w7.heap[w1.heap.size+1]?=some (.cells a e (0,0)):=(hb.block _ (by simp)).trans (Qd (by simp))
theorem Va {w1 w7:World}{a:Array Value}{e:TypeId}(hb:Below (w1.alloc (.cells a e (0,0))).drew.heap.size (w1.alloc (.cells a e (0,0))).drew w7):w7.heap[w1.heap.size]?=some (.cells a e (0,0)):=(hb.block _ (by simp)).trans (Qd (w:=w1) rfl)
theorem zXo {w1 w7:World}{o:Obj}{a:Array Value}{e:TypeId}(hb:Below ((w1.alloc o).alloc (.cells a e (0,0))).drew.heap.size ((w1.alloc o).alloc (.cells a e (0,0))).drew w7):w7.heap[w1.heap.size+1]?=some (.cells a e (0,0)):=(hb.block _ (by simp)).trans (Qd (w:=w1.alloc o) (by simp))
abbrev V3:=Value×Value×Value
section
variable {w w':World}{g:Nat}{v:Nat->V3}{n:Nat->Int}{va:Value}{l:List Ev}{K:Nat->Kn}
end
def aftK (x:Kn)(o:Opr)(d:Dt):Kn:=jn x (appT x.1 o d,appC x.1 o d)
theorem qYw {x:Kn}(hx:KOk x){o:Opr}{d:Dt}(h:appI x.1 o d=0):KOk (aftK x o d):=qQr hx (QW h).1
theorem st_es {u:Tr}(ho:u.Ord){y:En}:y∈u.es↔stE u [] y.dot=some y:=by rw[QA ho,←Y6];simp
def renE (f:Dt->Dt)(e:En):En:=⟨(f e.dot).dc,(f e.dot).n,e.s,e.v⟩
def RnT (f:Dt->Dt)(s t:Tr):Prop:=∀ p y,((p,y):Lf)∈t.lvs []↔∃ e,((p,e):Lf)∈s.lvs []/\y=renE f e
structure RnK (f:Dt->Dt)(x y:Kn):Prop where
 okx:KOk x
 oky:KOk y
 lf:RnT f x.1 y.1
 inj:∀ d e,hasC x.2 d=true->hasC x.2 e=true->f d=f e->d=e
 ctx:∀ d,hasC y.2 d=true↔∃ e,hasC x.2 e=true/\f e=d
theorem RnT.get {f:Dt->Dt}{s t:Tr}(h:RnT f s t)(hs:s.Ord)(ht:t.Ord)(p:List ByteArray):RnT f (getK s p) (getK t p):=fun q y=>by
 rw[ZH p ht,h]
 exact⟨fun ⟨e,h1,h2⟩=>⟨e,(ZH p hs).2 h1,h2⟩,fun ⟨e,h1,h2⟩=>⟨e,(ZH p hs).1 h1,h2⟩⟩
theorem RnT.keys {f:Dt->Dt}{s t:Tr}(h:RnT f s t)(hs:s.Ord)(ht:t.Ord):s.ks.map (·.1)=t.ks.map (·.1):=by
 refine Ye Qz (fun _ _ _ h k=>QG h k) ?_ ?_ fun k=>?_
 ·obtain⟨es,ks⟩:=s
  exact List.pairwise_map.2 (QS.1 hs).2.1
 ·obtain⟨es,ks⟩:=t
  exact List.pairwise_map.2 (QS.1 ht).2.1
 ·rw[qQy hs,qQy ht]
  exact⟨fun ⟨q,e,h1⟩=>⟨q,_,(h _ _).2 ⟨e,h1,rfl⟩⟩,fun ⟨q,y,h1⟩=>by obtain⟨e,h2,_⟩:=(h _ _).1 h1;exact⟨q,e,h2⟩⟩
theorem qYx {t:Tr}(ht:t.Ord):t.es.Nodup:=by
 obtain⟨es,ks⟩:=t
 exact (QS.1 ht).1.imp fun {a b} hh e=>by rw[e,Ja]at hh;cases hh
theorem RnT.es {f:Dt->Dt}{s t:Tr}(h:RnT f s t)(hs:s.Ord)(ht:t.Ord)(hi:∀ d∈s.es,∀ e∈s.es,f d.dot=f e.dot->d.dot=e.dot):t.es.Perm (s.es.map (renE f)):=by
 refine (List.perm_ext_iff_of_nodup (qYx ht) ?_).2 fun y=>?_
 ·refine List.pairwise_map.2 ((qYx hs).imp_of_mem fun {a b} ha hb hne e=>hne ?_)
  have h1:a.dot=b.dot:=hi a ha b hb (congrArg En.dot e)
  have h2:=(st_es hs).1 ha
  have h3:=(st_es hs).1 hb
  rw[h1,h3]at h2;cases h2;rfl
 ·rw[←Y6,h,List.mem_map]
  exact⟨fun ⟨e,h1,h2⟩=>⟨e,Y6.1 h1,h2.symm⟩,fun ⟨e,h1,h2⟩=>⟨e,Y6.2 h1,h2.symm⟩⟩
def seeAt (o:Opr)(p:List ByteArray):Prop:=if o.act=3∨o.act=4 then ∃ q,p=o.path++[o.s]++q else if o.act=5 then False else if o.act=6 then p=o.path else ∃ q,p=o.path++q
theorem qYy {t:Tr}(h:t.Ord){o:Opr}{x:Dt}:x∈seesD t o↔∃ p e,((p,e):Lf)∈t.lvs []/\e.dot=x/\seeAt o p:=by
 unfold seesD seeAt
 split
 ·rw[YJ h]
  exact⟨fun ⟨q,e,h1,h2⟩=>⟨_,e,h1,h2,q,rfl⟩,fun ⟨p,e,h1,h2,q,h3⟩=>⟨q,e,h3▸h1,h2⟩⟩
 ·split
  ·simp
  ·split
   ·rw[qWm h]
    exact⟨fun ⟨e,h1,h2⟩=>⟨_,e,h1,h2,rfl⟩,fun ⟨p,e,h1,h2,h3⟩=>⟨e,h3▸h1,h2⟩⟩
   ·rw[YJ h]
    exact⟨fun ⟨q,e,h1,h2⟩=>⟨_,e,h1,h2,q,rfl⟩,fun ⟨p,e,h1,h2,q,h3⟩=>⟨q,e,h3▸h1,h2⟩⟩
theorem RnK.sees {f:Dt->Dt}{x y:Kn}(h:RnK f x y){o:Opr}{z:Dt}(hz:hasC x.2 z=true):f z∈seesD y.1 o↔z∈seesD x.1 o:=by
 rw[qYy h.oky.ord,qYy h.okx.ord]
 constructor
 ·rintro⟨p,e,h1,h2,h3⟩
  obtain⟨e1,h4,rfl⟩:=(h.lf _ _).1 h1
  exact⟨p,e1,h4,h.inj _ _ (h.okx.has _ h4) hz h2,h3⟩
 ·rintro⟨p,e,h1,rfl,h3⟩
  exact⟨p,renE f e,(h.lf _ _).2 ⟨e,h1,rfl⟩,rfl,h3⟩
theorem RnK.fullAt {f:Dt->Dt}{x y:Kn}(h:RnK f x y)(p:List ByteArray)(k:Nat):fullAt x.1 p k=fullAt y.1 p k:=by
 have h1:=(h.lf.get h.okx.ord h.oky.ord (p.take k)).keys (Jw h.okx.ord _) (Jw h.oky.ord _)
 have h2:(getK x.1 (p.take k)).ks.length=(getK y.1 (p.take k)).ks.length:=by have:=congrArg List.length h1;simpa using this
 have h3:∀ s,hasK (getK x.1 (p.take k)) s=hasK (getK y.1 (p.take k)) s:=fun s=>by
  rw[Bool.eq_iff_iff]
  unfold hasK
  rw[List.any_eq_true,List.any_eq_true]
  have h4:∀ t:Tr,(∃ z∈t.ks,decide (z.1=s)=true)↔s∈t.ks.map (·.1):=fun t=>by rw[List.mem_map];simp
  rw[h4,h4,h1]
 unfold Go.Proofs.YtbcoelggdikipaaGreat.fullAt
 rw[h2,h3]
theorem RnK.dotEs {f:Dt->Dt}{x y:Kn}(h:RnK f x y)(p:List ByteArray):∀ d∈(getK x.1 p).es,∀ e∈(getK x.1 p).es,f d.dot=f e.dot->d.dot=e.dot:=fun d hd e he=>by
 have h1:∀ d∈(getK x.1 p).es,hasC x.2 d.dot=true:=fun d hd=>h.okx.has _ ((ZH p h.okx.ord).1 (Y6.2 hd))
 exact h.inj _ _ (h1 d hd) (h1 e he)
theorem RnK.full {f:Dt->Dt}{x y:Kn}(h:RnK f x y)(o:Opr):fullB x.1 o=fullB y.1 o:=by
 have h1:=((h.lf.get h.okx.ord h.oky.ord (endP o)).es (Jw h.okx.ord _) (Jw h.oky.ord _) (h.dotEs _)).length_eq
 rw[List.length_map]at h1
 unfold fullB fullP
 rw[h1,Je fun k _=>h.fullAt (endP o) k]
theorem RnK.app {f:Dt->Dt}{x y:Kn}(h:RnK f x y)(o:Opr){d e:Dt}(hd:d.right=true)(he:e.right=true)(hd':hasC x.2 d=false)(he':hasC y.2 e=false):appI x.1 o d=appI y.1 o e:=by
 have hx:x.1.right 5=true:=(YF h.okx.ord).2 h.okx.leaf
 have hy:y.1.right 5=true:=(YF h.oky.ord).2 h.oky.leaf
 have hno:∀ {z:Kn}{c:Dt},KOk z->hasC z.2 c=false->c∉z.1.dots:=fun {z c} hz hc hm=>by
  obtain⟨p,e,h1,rfl⟩:=(Z5 _ _).1 hm
  rw[hz.has _ h1]at hc;cases hc
 unfold appI
 rw[hx,hy,qZ3 hx hd (hno h.okx hd'),qZ3 hy he (hno h.oky he'),h.full o]
theorem VF {x:Kn}(hx:KOk x){o:Opr}{d:Dt}(h:appI x.1 o d=0)(hd:hasC x.2 d=false)(p:List ByteArray)(e:En):((p,e):Lf)∈(aftK x o d).1.lvs []↔(Qu o.act=true/\p=endP o/\e=entE o d)∨(((p,e):Lf)∈x.1.lvs []/\e.dot∉seesD x.1 o):=by
 have hX:KOk (appT x.1 o d,appC x.1 o d):=(QW h).1
 have hs:∀ {t:Tr},t.Ord->(((p,e):Lf)∈t.lvs []↔stE t p e.dot=some e):=fun {t} ho=>by rw[QA ho];simp
 rw[hs (qYw hx h).ord,hs hx.ord]
 unfold aftK
 rw[jn_st hx hX]
 simp only
 rw[zZv h,Kg h]
 by_cases hz:e.dot=d
 ·have hn:stE x.1 p e.dot=none:=by
   cases hs:stE x.1 p e.dot with
   |none=>rfl
   |some y=>have h1:hasC x.2 e.dot=true:=(Q9 hx hs).1;rw[hz,hd]at h1;cases h1
  rw[hn,hz,hd]
  by_cases h1:Qu o.act=true/\p=endP o
  ·rw[if_pos ⟨h1.1,h1.2,rfl⟩]
   simp[jnO,h1.1,h1.2,eq_comm]
  ·rw[if_neg (fun q=>h1 ⟨q.1,q.2.1⟩)]
   simp only[jnO]
   exact⟨fun q=>(by cases q),fun q=>by rcases q with⟨a,b,_⟩|⟨a,_⟩;exact absurd ⟨a,b⟩ h1;cases a⟩
 ·rw[if_neg (fun q=>hz q.2.2)]
  have hne:e≠entE o d:=fun q=>hz (by rw[q];rfl)
  cases hs:stE x.1 p e.dot with
  |none=>simp[jnO,hne]
  |some y=>by_cases h1:e.dot∈seesD x.1 o<;>simp[jnO,h1,hz,hne]
theorem Y1 {x:Kn}(hx:KOk x){o:Opr}{d:Dt}(h:appI x.1 o d=0)(z:Dt):hasC (aftK x o d).2 z=true↔hasC x.2 z=true∨z=d:=by
 have hX:KOk (appT x.1 o d,appC x.1 o d):=(QW h).1
 unfold aftK
 rw[J9 hx hX]
 simp only
 rw[Kg h,Bool.or_eq_true,decide_eq_true_eq]
 constructor
 ·rintro (h1|h1|h1)
  ·exact .inl h1
  ·exact .inr h1
  ·obtain⟨q,e,h2,rfl⟩:=qWn hx.ord h1
   exact .inl (hx.has _ h2)
 ·rintro (h1|h1)
  ·exact .inl h1
  ·exact .inr (.inl h1)
theorem RnK.step {f:Dt->Dt}{x y:Kn}(h:RnK f x y){o:Opr}{d:Dt}(ha:appI x.1 o d=0)(hb:appI y.1 o (f d)=0)(hd:hasC x.2 d=false)(he:hasC y.2 (f d)=false):RnK f (aftK x o d) (aftK y o (f d)):=by
 refine⟨qYw h.okx ha,qYw h.oky hb,fun p z=>?_,fun a b h1 h2 h3=>?_,fun z=>?_⟩
 ·rw[VF h.oky hb he]
  constructor
  ·rintro (⟨h1,h2,rfl⟩|⟨h1,h2⟩)
   ·exact⟨entE o d,(VF h.okx ha hd _ _).2 (.inl ⟨h1,h2,rfl⟩),rfl⟩
   ·obtain⟨e,h3,rfl⟩:=(h.lf _ _).1 h1
    exact⟨e,(VF h.okx ha hd _ _).2 (.inr ⟨h3,fun h4=>h2 ((h.sees (h.okx.has _ h3)).2 h4)⟩),rfl⟩
  ·rintro⟨e,h1,rfl⟩
   rcases (VF h.okx ha hd _ _).1 h1 with⟨h2,h3,rfl⟩|⟨h2,h3⟩
   ·exact .inl ⟨h2,h3,rfl⟩
   ·exact .inr ⟨(h.lf _ _).2 ⟨e,h2,rfl⟩,fun h4=>h3 ((h.sees (h.okx.has _ h2)).1 h4)⟩
 ·have hk:∀ z,hasC x.2 z=true->f z≠f d:=fun z hz e=>by
   have:=(h.ctx (f d)).2 ⟨z,hz,e⟩
   rw[he]at this;cases this
  rw[Y1 h.okx ha]at h1 h2
  rcases h1 with h1|rfl<;>rcases h2 with h2|rfl
  ·exact h.inj _ _ h1 h2 h3
  ·exact absurd h3 (hk _ h1)
  ·exact absurd h3.symm (hk _ h2)
  ·rfl
 ·rw[Y1 h.oky hb,h.ctx]
  constructor
  ·rintro (⟨e,h1,h2⟩|rfl)
   ·exact⟨e,(Y1 h.okx ha _).2 (.inl h1),h2⟩
   ·exact⟨d,(Y1 h.okx ha _).2 (.inr rfl),rfl⟩
  ·rintro⟨e,h1,h2⟩
   rcases (Y1 h.okx ha _).1 h1 with h1|rfl
   ·exact .inl ⟨e,h1,h2⟩
   ·exact .inr h2.symm
def stpN (nm:Nat->Dt)(s:Nat×Kn×Kn)(o:Opr):Nat×Kn×Kn:=(s.1+1,aftK s.2.1 o (nm s.1),jn s.2.2 (appT s.2.1.1 o (nm s.1),appC s.2.1.1 o (nm s.1)))
def chS (nm:Nat->Dt)(g:Kn)(ops:List Opr):Nat×Kn×Kn:=ops.foldl (stpN nm) (0,g,kn0)
theorem qYz (nm:Nat->Dt)(g:Kn)(ops:List Opr)(o:Opr):chS nm g (ops++[o])=stpN nm (chS nm g ops) o:=by unfold chS;rw[List.foldl_append];rfl
theorem zQu {nm:Nat->Dt}{g:Kn}{ops:List Opr}{k:Nat}{o:Opr}(h:ops[k]?=some o):chS nm g (ops.take (k+1))=stpN nm (chS nm g (ops.take k)) o:=by rw[List.take_add_one,h];exact qYz _ _ _ _
theorem qWv (nm:Nat->Dt)(g:Kn):∀ ops:List Opr,(chS nm g ops).1=ops.length:=fun ops=>by
 have:∀ (ops:List Opr) (s:Nat×Kn×Kn),(ops.foldl (stpN nm) s).1=s.1+ops.length:=fun ops=>by
  induction ops with
  |nil=>intro s;rfl
  |cons o ops ih=>intro s;rw[List.foldl_cons,ih,List.length_cons];show s.1+1+_=_;omega
 unfold chS;rw[this];exact Nat.zero_add _
def okTx (nm:Nat->Dt)(g:Kn)(ops:List Opr):Prop:=∀ (k:Nat) o,ops[k]?=some o->appI (chS nm g (ops.take k)).2.1.1 o (nm k)=0
theorem qZ6 {t:Tr}{o:Opr}{d:Dt}(h:appI t o d=0):(appC t o d).length<=4*(t.sz+2):=by
 have e1:appC t o d=ctxOf (d :: seesD t o):=by unfold appC;rw[if_pos h]
 have e2:(ctxOf (d :: seesD t o)).length<=4*((d :: seesD t o).length+1):=Zl _ 4
 have e3:=qYs t o
 rw[e1]
 simp only[List.length_cons]at e2
 omega
structure ChI (nm:Nat->Dt)(g:Kn)(k:Nat)(s:Nat×Kn×Kn):Prop where
 now:KOk s.2.1
 out:KOk s.2.2
 has:∀ z,hasC s.2.1.2 z=true↔hasC g.2 z=true∨∃ i,i<k/\z=nm i
 eq:jn g s.2.2=s.2.1
 z1:s.2.1.1.sz<=g.1.sz+5*k
 z2:s.2.2.1.sz<=5*k
 l1:s.2.1.2.length<=g.2.length+500*k
 l2:s.2.2.2.length<=500*k
theorem zZx {nm:Nat->Dt}{g:Kn}{ops:List Opr}(hg:KOk g)(hz:g.1.sz<=60)(hl:ops.length<=12)(hok:okTx nm g ops):∀ k,k<=ops.length->ChI nm g k (chS nm g (ops.take k))
 |0,_=>by
  refine⟨hg,qQq,fun z=>?_,?_,by simp[chS],by simp[chS,kn0,Tr.sz,Tr.szL],by simp[chS],by simp[chS,kn0]⟩
  ·simp[chS]
  ·show jn g kn0=g
   rw[qWc hg qQq,qWd hg]
 |k+1,hk=>by
  have ih:=zZx hg hz hl hok k (by omega)
  have hlt:k<ops.length:=by omega
  have hx:=List.getElem?_eq_getElem hlt
  have ha:=hok k _ hx
  have h1:(chS nm g (ops.take k)).1=k:=by rw[qWv,List.length_take];omega
  rw[zQu hx]
  generalize chS nm g (ops.take k)=s at *
  obtain⟨n,x,u⟩:=s
  simp only at h1 ha
  subst h1
  obtain⟨i1,i2,i3,i4,i5,i6,i7,i8⟩:=ih
  simp only at i1 i2 i3 i4 i5 i6 i7 i8
  have hX:KOk (appT x.1 ops[n] (nm n),appC x.1 ops[n] (nm n)):=(QW ha).1
  have hs:(appT x.1 ops[n] (nm n)).sz<=5:=(QW ha).2
  have hc:=qZ6 ha
  have j1:=jn_sz i1 hX
  have j2:=jn_sz i2 hX
  simp only at j1 j2
  refine⟨qYw i1 ha,qQr i2 hX,fun z=>?_,?_,?_,?_,?_,?_⟩
  ·show hasC (aftK x ops[n] (nm n)).2 z=true↔_
   rw[Y1 i1 ha,i3]
   constructor
   ·rintro ((h|⟨i,h,e⟩)|h)
    ·exact .inl h
    ·exact .inr ⟨i,by omega,e⟩
    ·exact .inr ⟨n,by omega,h⟩
   ·rintro (h|⟨i,h,e⟩)
    ·exact .inl (.inl h)
    ·rcases (show i<n∨i=n by omega) with h2|rfl
     ·exact .inl (.inr ⟨i,h2,e⟩)
     ·exact .inr e
  ·show jn g (jn u _)=aftK x ops[n] (nm n)
   rw[←Vy hg i2 hX,i4];rfl
  ·exact Nat.le_trans j1.1 (by omega)
  ·exact Nat.le_trans j2.1 (by omega)
  ·exact Nat.le_trans j1.2 (by omega)
  ·exact Nat.le_trans j2.2 (by omega)
def txD (k:Nat):Dt:=⟨0,1099511627765+(k:Int)⟩
def OpA (w:World)(ok:Nat->Prop)(o:Opr)(cs:List Value):Prop:=
 ∃ A c,cs=[.slice A o.path.length c,.int .i64 o.act,.string o.s,.int .i64 o.n]/\SlA w ok 1 StE (.slice A o.path.length c) o.path/\o.Ok
theorem OpA.mon:Emon OpA where
 up:=fun hk ho ⟨A,c,h1,h2,h3⟩=>⟨A,c,h1,h2.up hk ho fun _ _ _ h=>h,h3⟩
 one:=by rintro w ok x cs ⟨A,c,rfl,_⟩;simp[Value.oneCell']
theorem eiOp:Qs Tryz.prog 47 65 4 56:=Qs.mk (z:=.agg #[.slice none 0 0,.int .i64 0,.string ByteArray.empty,.int .i64 0]) Tryz.underlying47 (by kernel_rfl) rfl
def OpL (w:World)(v:Value)(l:List Opr):Prop:=SlP w w.heap.size 4 (OpA w (fun b=>b<w.heap.size)) v l
theorem OpL.up {w w':World}{v:Value}{l:List Opr}(h:OpL w v l)(hb:Below w.heap.size w w'):OpL w' v l:=
 SlP.imp h hb hb.size fun _ _ _ hx=>OpA.mon.up (fun b hb'=>hb.block b hb') (fun _ hb'=>Nat.lt_of_lt_of_le hb' hb.size) hx
theorem OwnD.opl {w:World}{base:Nat}{okp:Nat->Prop}{v:Value}{l:List Opr}(h:OwnD w base 65 4 OpA okp v l)(hl:l.length<=Big):OpL w v l:=
 (OwnD.sl h OpA.mon hl).imp (Below.refl _ _) (Nat.le_refl _) fun _ _ _ hx=>OpA.mon.up (fun _ _=>rfl) (fun _ hb=>hb.2) hx
theorem OpL.at {w:World}{A:Option Addr}{n:Nat}{l:List Opr}(h:OpL w (.slice A l.length n) l){k:Nat}{x:Opr}(hx:l[k]?=some x) :
  ∃ b off A5 c5,A=some ⟨b,off,none⟩/\b<w.heap.size/\SlP w w.heap.size 1 StE (.slice A5 x.path.length c5) x.path/\x.Ok /\
   ∀ W:World,W.heap[b]?=w.heap[b]?->(W.cell? ⟨b,off+k*4,none⟩=some (.slice A5 x.path.length c5)/\W.cell? ⟨b,off+k*4+1,none⟩=some (.int .i64 x.act)/\W.cell? ⟨b,off+k*4+2,none⟩=some (.string x.s)/\W.cell? ⟨b,off+k*4+3,none⟩=some (.int .i64 x.n)):=by
 obtain⟨A',n',hv,_,_,h3⟩:=h
 cases hv
 obtain⟨b,off,rfl,hb,hc⟩:=h3 (by rintro rfl;simp at hx)
 obtain⟨cs,⟨A5,c5,rfl,hp,ho⟩,_,hu⟩:=hc k x hx
 have e:∀ W:World,W.heap[b]?=w.heap[b]?->∀ o,W.cell? ⟨b,o,none⟩=w.cell? ⟨b,o,none⟩:=fun W hW o=>World.cell?_of_block hW
 exact⟨b,off,A5,c5,rfl,hb,hp,ho,fun W hW=>⟨(e W hW _).trans (hu 0 _ rfl),(e W hW _).trans (hu 1 _ rfl),(e W hW _).trans (hu 2 _ rfl),(e W hW _).trans (hu 3 _ rfl)⟩⟩
def Kj (v:Nat->V3)(vo:Value):Array Value:=#[(v 0).1,(v 0).2.1,(v 0).2.2,(v 1).1,(v 1).2.1,(v 1).2.2,vo]
def okGo (w:World)(g:Nat)(vo:Value)(okp:Nat->Prop)(b:Nat):Prop:=okp b/\b≠g/\b<w.heap.size/\vo.ownBlock≠some b
structure TxB (w:World)(g:Nat)(okp:Nat->Prop)(v:Nat->V3)(vo:Value)(G N:Kn)(ops:List Opr):Prop where
 box:w.heap[g]?=some (.cells (Kj v vo) 100 (0,0))
 tg:G.1.rda w (okGo w g vo okp) (v 0).1 (v 0).2.1
 cg:SlA w (okGo w g vo okp) 3 SpE (v 0).2.2 G.2
 tn:N.1.rda w (okGo w g vo okp) (v 1).1 (v 1).2.1
 cn:SlA w (okGo w g vo okp) 3 SpE (v 1).2.2 N.2
 own:OwnD w (g+1) 65 4 OpA (fun b=>okp b/\b≠g) vo ops
 ob:∀ b,vo.ownBlock=some b->okp b
section
variable {w w':World}{g:Nat}{okp okq:Nat->Prop}{v:Nat->V3}{vo:Value}{G N:Kn}{ops:List Opr}
theorem TxB.lt (h:TxB w g okp v vo G N ops):g<w.heap.size:=lt_of_block h.box
theorem TxB.keep (h:TxB w g okp v vo G N ops)(hk:∀ b,(okp b∨b=g)->b<w.heap.size->w'.heap[b]?=w.heap[b]?)(hs:w.heap.size<=w'.heap.size)(ho:∀ b,okp b->b<w.heap.size->okq b):TxB w' g okq v vo G N ops:=by
 have k1:Keeps (okGo w g vo okp) w w':=fun b hb=>hk b (.inl hb.1) hb.2.2.1
 have k2:∀ b,okGo w g vo okp b->okGo w' g vo okq b:=fun b hb=>⟨ho b hb.1 hb.2.2.1,hb.2.1,Nat.lt_of_lt_of_le hb.2.2.1 hs,hb.2.2.2⟩
 refine⟨(hk g (.inr rfl) h.lt).trans h.box,Qq k1 k2 _ _ _ h.tg,h.cg.up k1 k2 fun _ _ _ h=>h,Qq k1 k2 _ _ _ h.tn,h.cn.up k1 k2 fun _ _ _ h=>h,?_,fun b hb=>ho b (h.ob b hb) (OwnD.lt h.own b hb).2⟩
 have h1:=OwnP.keep (w':=w') h.own fun q hq=>hk q (.inl (h.ob q hq)) (OwnD.lt h.own q hq).2
 exact h1.imp fun x _ cs hx=>OpA.mon.up (fun b hb=>hk b (.inl hb.1.1) hb.2.1) (fun b hb=>⟨⟨ho b hb.1.1 hb.2.1,hb.1.2⟩,Nat.lt_of_lt_of_le hb.2.1 hs,hb.2.2⟩) hx
theorem TxB.grow (h:TxB w g okp v vo G N ops)(hb:Below w.heap.size w w'):TxB w' g okp v vo G N ops:=h.keep (fun b _ hl=>hb.block b hl) hb.size fun _ h _=>h
theorem TxB.rdG (h:TxB w g okp v vo G N ops):G.1.rd w w.heap.size (v 0).1 (v 0).2.1:=Zu h.tg (fun _ hb=>hb.2.2.1) (Below.refl _ _)
theorem TxB.slG (h:TxB w g okp v vo G N ops):SlP w w.heap.size 3 SpE (v 0).2.2 G.2:=h.cg.slp (fun _ hb=>hb.2.2.1) (Below.refl _ _)
theorem TxB.rdN (h:TxB w g okp v vo G N ops):N.1.rd w w.heap.size (v 1).1 (v 1).2.1:=Zu h.tn (fun _ hb=>hb.2.2.1) (Below.refl _ _)
theorem TxB.slN (h:TxB w g okp v vo G N ops):SlP w w.heap.size 3 SpE (v 1).2.2 N.2:=h.cn.slp (fun _ hb=>hb.2.2.1) (Below.refl _ _)
theorem TxB.opl (h:TxB w g okp v vo G N ops)(hl:ops.length<=Big):OpL w vo ops:=OwnD.opl h.own hl
theorem TxB.cells (h:TxB w g okp v vo G N ops):w.cell? ⟨g,0,none⟩=some (v 0).1/\w.cell? ⟨g,1,none⟩=some (v 0).2.1/\w.cell? ⟨g,2,none⟩=some (v 0).2.2/\w.cell? ⟨g,3,none⟩=some (v 1).1/\w.cell? ⟨g,4,none⟩=some (v 1).2.1/\w.cell? ⟨g,5,none⟩=some (v 1).2.2/\w.cell? ⟨g,6,none⟩=some vo:=by
 have hb:=h.box
 unfold Kj at hb
 exact⟨Qa (i:=0) hb,Qa (i:=1) hb,Qa (i:=2) hb,Qa (i:=3) hb,Qa (i:=4) hb,Qa (i:=5) hb,Qa (i:=6) hb⟩
theorem TxB.frz (h:TxB w g okp v vo G N ops)(o:Nat):w.frozen? ⟨g,o,none⟩=false:=Qb h.box
theorem zYo {e:TypeId}(h:w.heap[g]?=some (.cells (Kj v vo) e (0,0)))(a b c d:Value) :
  ((((w.setCell ⟨g,3,none⟩ a).setCell ⟨g,4,none⟩ b).setCell ⟨g,5,none⟩ c).setCell ⟨g,6,none⟩ d).heap[g]?=some (.cells (Kj (fun i=>if i=1 then (a,b,c) else v i) d) e (0,0)):=by
 have h1:=Qe (i:=3) h a
 have h2:=Qe (i:=4) h1 b
 have h3:=Qe (i:=5) h2 c
 have h4:=Qe (i:=6) h3 d
 rw[h4]
 simp[Kj]
theorem TxB.set (h:TxB w g okp v vo G N ops){vo' a b c:Value}{N':Kn}{ops':List Opr}(hg:w'.heap[g]?=w.heap[g]?)(hk:∀ b,b<w.heap.size->b≠g->vo.ownBlock≠some b->w'.heap[b]?=w.heap[b]?)(hs:w.heap.size<=w'.heap.size)
  (hv:vo'.ownBlock=vo.ownBlock∨∃ b,vo'.ownBlock=some b/\w.heap.size<=b) (hr:N'.1.rda w' (fun b=>w.heap.size<=b/\b<w'.heap.size/\vo'.ownBlock≠some b) a b) (hc:SlA w' (fun b=>w.heap.size<=b/\b<w'.heap.size/\vo'.ownBlock≠some b) 3 SpE c N'.2)
  (hown:OwnD w' (g+1) 65 4 OpA (fun b=>(okp b∨w.heap.size<=b)/\b≠g) vo' ops') :
  TxB ((((w'.setCell ⟨g,3,none⟩ a).setCell ⟨g,4,none⟩ b).setCell ⟨g,5,none⟩ c).setCell ⟨g,6,none⟩ vo') g (fun b=>okp b∨w.heap.size<=b) (fun i=>if i=1 then (a,b,c) else v i) vo' G N' ops':=by
 have hgl:=h.lt
 have hK:∀ k,k≠g->((((w'.setCell ⟨g,3,none⟩ a).setCell ⟨g,4,none⟩ b).setCell ⟨g,5,none⟩ c).setCell ⟨g,6,none⟩ vo').heap[k]?=w'.heap[k]?:=fun k hk=>(Below.heap_setCell _ _ _ _ hk).trans ((Below.heap_setCell _ _ _ _ hk).trans ((Below.heap_setCell _ _ _ _ hk).trans (Below.heap_setCell _ _ _ _ hk)))
 have hS:((((w'.setCell ⟨g,3,none⟩ a).setCell ⟨g,4,none⟩ b).setCell ⟨g,5,none⟩ c).setCell ⟨g,6,none⟩ vo').heap.size=w'.heap.size:=by simp[World.setCell]
 have hv1:∀ b,b<w.heap.size->vo.ownBlock≠some b->vo'.ownBlock≠some b:=fun b hb hn=>by
  rcases hv with e|⟨q,e,hq⟩
  ·rw[e];exact hn
  ·rw[e];intro e;cases e;omega
 have k1:∀ k,okGo w g vo okp k->((((w'.setCell ⟨g,3,none⟩ a).setCell ⟨g,4,none⟩ b).setCell ⟨g,5,none⟩ c).setCell ⟨g,6,none⟩ vo').heap[k]?=w.heap[k]?:=fun k hq=>(hK k hq.2.1).trans (hk k hq.2.2.1 hq.2.1 hq.2.2.2)
 have k2:∀ k,okGo w g vo okp k->okGo ((((w'.setCell ⟨g,3,none⟩ a).setCell ⟨g,4,none⟩ b).setCell ⟨g,5,none⟩ c).setCell ⟨g,6,none⟩ vo') g vo' (fun b=>okp b∨w.heap.size<=b) k:=fun k hq=>⟨.inl hq.1,hq.2.1,by rw[hS];exact Nat.lt_of_lt_of_le hq.2.2.1 hs,hv1 k hq.2.2.1 hq.2.2.2⟩
 have n1:∀ k,(w.heap.size<=k/\k<w'.heap.size/\vo'.ownBlock≠some k)->((((w'.setCell ⟨g,3,none⟩ a).setCell ⟨g,4,none⟩ b).setCell ⟨g,5,none⟩ c).setCell ⟨g,6,none⟩ vo').heap[k]?=w'.heap[k]?:=fun k hq=>hK k (by omega)
 have n2:∀ k,(w.heap.size<=k/\k<w'.heap.size/\vo'.ownBlock≠some k)->okGo ((((w'.setCell ⟨g,3,none⟩ a).setCell ⟨g,4,none⟩ b).setCell ⟨g,5,none⟩ c).setCell ⟨g,6,none⟩ vo') g vo' (fun b=>okp b∨w.heap.size<=b) k:=fun k hq=>⟨.inr hq.1,by omega,by rw[hS];exact hq.2.1,hq.2.2⟩
 refine⟨zYo (hg.trans h.box) a b c vo',?_,?_,?_,?_,?_,?_⟩
 ·simp only[Nat.zero_ne_one,if_false];exact Qq k1 k2 _ _ _ h.tg
 ·simp only[Nat.zero_ne_one,if_false];exact h.cg.up k1 k2 fun _ _ _ h=>h
 ·simp only[if_true];exact Qq n1 n2 _ _ _ hr
 ·simp only[if_true];exact hc.up n1 n2 fun _ _ _ h=>h
 ·have h1:=OwnP.keep (w':=((((w'.setCell ⟨g,3,none⟩ a).setCell ⟨g,4,none⟩ b).setCell ⟨g,5,none⟩ c).setCell ⟨g,6,none⟩ vo')) hown fun q hq=>hK q (by have:=(OwnD.lt hown q hq).1;omega)
  exact h1.imp fun x _ cs hx=>OpA.mon.up (fun k hk=>hK k hk.1.2) (fun k hk=>⟨hk.1,by rw[hS];exact hk.2.1,hk.2.2⟩) hx
 ·intro q hq
  rcases hv with e|⟨q',e,hq'⟩
  ·exact .inl (h.ob q (e▸hq))
  ·rw[e]at hq;cases hq;exact .inr hq'
end
def mxI (p q:Int):Int:=max p q
def mnI (p q:Int):Int:=min p q
def meetL:List (Int×Int)->List (Int×Int)->List (Int×Int)
 |x :: a,y :: b=>(if mxI x.1 y.1<=mnI x.2 y.2 then [(mxI x.1 y.1,mnI x.2 y.2)] else [])++(if x.2<y.2 then meetL a (y :: b) else meetL (x :: a) b)
 |[],_=>[]
 |_ :: _,[]=>[]
termination_by a b=>a.length+b.length
theorem Kk (b:List (Int×Int)):meetL [] b=[]:=by unfold meetL;rfl
theorem Jh (a:List (Int×Int)):meetL a []=[]:=by cases a<;>(unfold meetL;rfl)
theorem Ji (x y:Int×Int)(a b:List (Int×Int)):meetL (x :: a) (y :: b)=(if mxI x.1 y.1<=mnI x.2 y.2 then [(mxI x.1 y.1,mnI x.2 y.2)] else [])++(if x.2<y.2 then meetL a (y :: b) else meetL (x :: a) b):=by rw[meetL]
theorem mx_le {p q n:Int}:mxI p q<=n↔p<=n/\q<=n:=by unfold mxI;omega
theorem le_mn {p q n:Int}:n<=mnI p q↔n<=p/\n<=q:=by unfold mnI;omega
theorem VG (n:Int):∀ (m:Nat) (a b:List (Int×Int)) (p q:Option Int),a.length+b.length<=m->runsR p a=true->runsR q b=true->hasL (meetL a b) n=(hasL a n&&hasL b n)
 |_,[],b,_,_,_,_,_=>by rw[Kk];simp[hasL]
 |_,x :: a,[],_,_,_,_,_=>by rw[Jh];simp[hasL]
 |0,x :: a,y :: b,_,_,h,_,_=>by simp at h
 |m+1,x :: a,y :: b,p,q,h,ha,hb=>by
  have ha':=(Qo _ _ _).1 ha
  have hb':=(Qo _ _ _).1 hb
  obtain⟨hx,_,hal⟩:=ha'
  obtain⟨hy,_,hbl⟩:=hb'
  unfold runOk at hx hy
  have g1:=Jt a x.2 n hal
  have g2:=Jt b y.2 n hbl
  simp only[List.length_cons]at h
  rw[Ji,qQj]
  have hhd:hasL (if mxI x.1 y.1<=mnI x.2 y.2 then [(mxI x.1 y.1,mnI x.2 y.2)] else []) n=(inR x n&&inR y n):=by
   have h1:hasL (if mxI x.1 y.1<=mnI x.2 y.2 then [(mxI x.1 y.1,mnI x.2 y.2)] else []) n=(decide (mxI x.1 y.1<=mnI x.2 y.2)&&inR (mxI x.1 y.1,mnI x.2 y.2) n):=by
    split<;>rename_i hc<;>simp[hasL,hc]
   rw[h1,Bool.eq_iff_iff]
   simp only[Bool.and_eq_true,decide_eq_true_eq,inR,mx_le,le_mn]
   omega
  rw[hhd,Zw,Zw]
  split
  ·rename_i hlt
   have g3:inR x n=true->hasL b n=true->False:=fun h1 h2=>by
    have:=g2 h2
    simp only[inR,Bool.and_eq_true,decide_eq_true_eq]at h1
    omega
   rw[VG n m a (y :: b) _ _ (by simp;omega) hal hb,Zw]
   cases e1:inR x n<;>cases e2:inR y n<;>cases e3:hasL a n<;>cases e4:hasL b n<;>first|rfl|exact absurd (g3 e1 e4) not_false
  ·rename_i hlt
   have g3:inR y n=true->hasL a n=true->False:=fun h1 h2=>by
    have:=g1 h2
    simp only[inR,Bool.and_eq_true,decide_eq_true_eq]at h1
    omega
   rw[VG n m (x :: a) b _ _ (by simp;omega) ha hbl,Zw]
   cases e1:inR x n<;>cases e2:inR y n<;>cases e3:hasL a n<;>cases e4:hasL b n<;>first|rfl|exact absurd (g3 e2 e3) not_false
theorem Kl:∀ (m:Nat) (a b:List (Int×Int)) (p q r:Option Int),a.length+b.length<=m->runsR p a=true->runsR q b=true->(runsR r a=true∨runsR r b=true)->runsR r (meetL a b)=true
 |_,[],b,_,_,r,_,_,_,_=>by rw[Kk];cases r<;>rfl
 |_,x :: a,[],_,_,r,_,_,_,_=>by rw[Jh];cases r<;>rfl
 |0,x :: a,y :: b,_,_,_,h,_,_,_=>by simp at h
 |m+1,x :: a,y :: b,p,q,r,h,ha,hb,hr=>by
  obtain⟨hx,_,hal⟩:=(Qo _ _ _).1 ha
  obtain⟨hy,_,hbl⟩:=(Qo _ _ _).1 hb
  unfold runOk at hx hy
  simp only[List.length_cons]at h
  rw[Ji]
  have hrest:∀ z:Option Int,(runsR z (x :: a)=true∨runsR z (y :: b)=true∨(z=some (mnI x.2 y.2)))->runsR z (if x.2<y.2 then meetL a (y :: b) else meetL (x :: a) b)=true:=fun z hz=>by
   split
   ·rename_i hlt
    refine Kl m a (y :: b) _ _ z (by simp;omega) hal hb ?_
    rcases hz with hz|hz|hz
    ·refine .inl (qZv hal z fun q' e=>?_)
     subst e
     have:=((Qo _ _ _).1 hz).2.1
     simp only[okR,decide_eq_true_eq]at this;omega
    ·exact .inr hz
    ·subst hz
     refine .inl ?_
     have e:mnI x.2 y.2=x.2:=by unfold mnI;omega
     rw[e];exact hal
   ·rename_i hlt
    refine Kl m (x :: a) b _ _ z (by simp;omega) ha hbl ?_
    rcases hz with hz|hz|hz
    ·exact .inl hz
    ·refine .inr (qZv hbl z fun q' e=>?_)
     subst e
     have:=((Qo _ _ _).1 hz).2.1
     simp only[okR,decide_eq_true_eq]at this;omega
    ·subst hz
     refine .inr ?_
     have e:mnI x.2 y.2=y.2:=by unfold mnI;omega
     rw[e];exact hbl
  split
  ·rename_i hle
   rw[List.singleton_append,Qo]
   have hok:∀ z:Option Int,r=z->okR z (mxI x.1 y.1)=true:=fun z e=>by
    cases z with
    |none=>rfl
    |some z=>
     subst e
     simp only[okR,decide_eq_true_eq]
     unfold mxI
     rcases hr with hr|hr
     ·have:=((Qo _ _ _).1 hr).2.1
      simp only[okR,decide_eq_true_eq]at this
      omega
     ·have:=((Qo _ _ _).1 hr).2.1
      simp only[okR,decide_eq_true_eq]at this
      omega
   refine⟨?_,hok r rfl,hrest _ (.inr (.inr rfl))⟩
   unfold runOk mxI mnI
   unfold mxI mnI at hle
   simp only
   exact⟨by omega,hle,by omega⟩
  ·rw[List.nil_append]
   refine hrest r ?_
   rcases hr with hr|hr
   ·exact .inl hr
   ·exact .inr (.inl hr)
theorem qWw {a b:List (Int×Int)}(ha:runsR none a=true)(hb:runsR none b=true):meetL a b=byL a b 1:=by
 have h:=Yg (a:=a) (b:=b) 1 (Ze a none ha) (Ze b none hb)
 refine YA _ _ none none (Kl _ a b none none none (Nat.le_refl _) ha hb (.inl ha)) h.1 fun n=>?_
 rw[VG n _ a b none none (Nat.le_refl _) ha hb,h.2 n]
 simp[inn]
theorem qWx {a b:List (Int×Int)}{i k:Nat}{x y:Int×Int}(hx:a[i]?=some x)(hy:b[k]?=some y):meetL (a.drop i) (b.drop k)=(if mxI x.1 y.1<=mnI x.2 y.2 then [(mxI x.1 y.1,mnI x.2 y.2)] else [])++(if x.2<y.2 then meetL (a.drop (i+1)) (b.drop k) else meetL (a.drop i) (b.drop (k+1))):=by
 rw[QK hx,QK hy,Ji]
theorem qWy (a b:List (Int×Int))(va vb:Value)(w:World)(ha:SlP w w.heap.size 2 RuE va a)(hb:SlP w w.heap.size 2 RuE vb b)(hra:runsR none a=true)(hrb:runsR none b=true)(hN:(meetL a b).length<=900000) :
  Calls Tryz.prog 94 #[va,vb] w (RetO w 167 2 (fun _=>RuE) (meetL a b)):=by
 have HA:=hid ha
 have HB:=hid hb
 have HRA:=hid hra
 have HRB:=hid hrb
 obtain⟨A1,c1,rfl,a1,a2,a3⟩:=ha
 obtain⟨A2,c2,rfl,b1,b2,b3⟩:=hb
 unfold Big at a2 b2
 clear hra hrb
 go_enter Tryz.func94,Tryz.ntmps94
 go_wp2_with fail
 refine (JX a b _ _ w HA.out HB.out).mono ?_
 rw[HRA.out,HRB.out]
 rintro e w1 ⟨rfl,hb1⟩
 have hs1:=hb1.size
 go_wp2_with fail
 go_loopw [5,6,7] (fun v i k wr=>∃ (p q:Nat) (os:List (Int×Int)),p<=a.length/\q<=b.length/\i=.int .i64 p/\k=.int .i64 q/\OwnP wr w1.heap.size 167 2 RuE v os/\Hid (os++meetL (a.drop p) (b.drop q)=meetL a b)/\Below w1.heap.size w1 wr) (fun _ i k _=>(a.length-(intOf i).toNat)+(b.length-(intOf k).toNat))
 case atStart=>exact⟨0,0,[],Nat.zero_le _,Nat.zero_le _,rfl,rfl,OwnP.nil,by unfold Hid;simp,Below.refl _ _⟩
 case round=>
  obtain⟨p,q,os,hp,hq,rfl,rfl,hown,HOS,hbr⟩:=hrel
  have hsz:=hbr.size
  have hB0:Below w.heap.size w wr:=hb1.trans (hbr.mono hs1)
  by_cases hlp:p<a.length
  case neg=>
   have e1:p=a.length:=by omega
   have hend:os=meetL a b:=by
    have h:=HOS.out
    rw[e1,List.drop_length,Kk,List.append_nil]at h;exact h
   have HEN:=hid hend
   have hi1:¬((p:Int)<(a.length:Int)):=by omega
   clear hend
   go_wp2_with fail
   go_ret
   exact⟨_,rfl,by rw[←HEN.out];exact hown.mono hs1,hB0⟩
  by_cases hlq:q<b.length
  case neg=>
   have e1:q=b.length:=by omega
   have hend:os=meetL a b:=by
    have h:=HOS.out
    rw[e1,List.drop_length,Jh,List.append_nil]at h;exact h
   have HEN:=hid hend
   have hi1:((p:Int)<(a.length:Int)):=by omega
   have hi2:¬((q:Int)<(b.length:Int)):=by omega
   clear hend
   go_wp2_with fail
   go_ret
   exact⟨_,rfl,by rw[←HEN.out];exact hown.mono hs1,hB0⟩
  obtain⟨x,hx⟩:∃ x,a[p]?=some x:=⟨_,List.getElem?_eq_getElem hlp⟩
  obtain⟨y,hy⟩:∃ y,b[q]?=some y:=⟨_,List.getElem?_eq_getElem hlq⟩
  obtain⟨ba,oa,rfl,hbA,hc⟩:=a3 (by rintro rfl;simp at hlp)
  obtain⟨bb,ob,rfl,hbB,hd⟩:=b3 (by rintro rfl;simp at hlq)
  obtain⟨cs,⟨rfl,hok⟩,_,hu⟩:=hc p _ hx
  obtain⟨ds,⟨rfl,hok2⟩,_,hv⟩:=hd q _ hy
  have e0:wr.cell? ⟨ba,oa+p*2,none⟩=some (.int .i64 x.1):=(hB0.cell hbA).trans (hu 0 _ rfl)
  have e1:wr.cell? ⟨ba,oa+p*2+1,none⟩=some (.int .i64 x.2):=(hB0.cell hbA).trans (hu 1 _ rfl)
  have f0:wr.cell? ⟨bb,ob+q*2,none⟩=some (.int .i64 y.1):=(hB0.cell hbB).trans (hv 0 _ rfl)
  have f1:wr.cell? ⟨bb,ob+q*2+1,none⟩=some (.int .i64 y.2):=(hB0.cell hbB).trans (hv 1 _ rfl)
  have hi1:((p:Int))<(a.length:Int):=by omega
  have hi2:((q:Int))<(b.length:Int):=by omega
  have hstep:=qWx hx hy
  have hx1:I64 x.1:=hok.1
  have hx2:I64 x.2:=hok.2
  have hy1:I64 y.1:=hok2.1
  have hy2:I64 y.2:=hok2.2
  have HTL:Hid (∀ os':List (Int×Int),os'=os++(if mxI x.1 y.1<=mnI x.2 y.2 then [(mxI x.1 y.1,mnI x.2 y.2)] else [])->os'++(if x.2<y.2 then meetL (a.drop (p+1)) (b.drop q) else meetL (a.drop p) (b.drop (q+1)))=meetL a b):=fun os' e=>by
   rw[e,List.append_assoc,←hstep];exact HOS.out
  clear hu hv hc hd a3 b3 hx hy hok hok2 hstep HOS
  unfold I64 at hx1 hx2 hy1 hy2
  by_cases hle:mxI x.1 y.1<=mnI x.2 y.2
  ·rw[if_pos hle]at HTL
   have hle2:max x.1 y.1<=min x.2 y.2:=hle
   have HRE:Hid (RuE (mxI x.1 y.1,mnI x.2 y.2) [.int .i64 (max x.1 y.1),.int .i64 (min x.2 y.2)]):=⟨rfl,by show I64 (mxI x.1 y.1);unfold mxI I64;omega,by show I64 (mnI x.2 y.2);unfold mnI I64;omega⟩
   have HL:Hid (os.length + [((mxI x.1 y.1,mnI x.2 y.2):Int×Int)].length<=Few):=by
    have h:=congrArg List.length (HTL.out _ rfl)
    unfold Hid Few;simp at h ⊢;omega
   have HBR:=hid hbr
   have HCE:Hid (∀ W,Below w1.heap.size wr W->(W.cell? ⟨ba,oa+p*2+1,none⟩=some (.int .i64 x.2)/\W.cell? ⟨bb,ob+q*2+1,none⟩=some (.int .i64 y.2))):=fun W hW=>⟨(hW.cell (p:=⟨ba,oa+p*2+1,none⟩) (Nat.lt_of_lt_of_le hbA hs1)).trans e1,(hW.cell (p:=⟨bb,ob+q*2+1,none⟩) (Nat.lt_of_lt_of_le hbB hs1)).trans f1⟩
   clear hle
   go_wp2_with fail
   go_quiet (fail)
   go_wp2_with (at_builtin;go_loud (refine Ql rfl (.tmp 49) (.tmp 53) _ rfl eiRun (by decide) (by decide) (fun _ _ h=>h.one) rfl ((hown.drewN _).alloc _) rfl (SlP.one (x:=(mxI x.1 y.1,mnI x.2 y.2)) HRE.out rfl _ (by rw[World.heap_drewN])) HL.out (by rw[World.size_alloc,World.heap_drewN];omega) ?_);intro v1 w4 hown4 hb4 _)
   have hb5:Below w1.heap.size wr w4:=((Z1 (Below.refl w1.heap.size wr) _).alloc (by rw[World.heap_drewN];omega) _).trans hb4
   have HB5:=hid hb5
   have hs5:=hb5.size
   clear e0 e1 f0 f1
   obtain⟨e1,f1⟩:=HCE.out _ hb5
   clear hb4 hb5
   by_cases hxy:x.2<y.2
   ·rw[if_pos hxy]at HTL
    go_wp2_with fail
    go_quiet (fail)
    go_wp2_with fail
    go_roundw
    case rel=>exact⟨p+1,q,_,by omega,hq,by go_num,by go_num,hown4.drewN _,HTL.out _ rfl,Z1 (HBR.out.trans HB5.out) _⟩
    case measure=>simp[intOf];omega
   ·rw[if_neg hxy]at HTL
    go_wp2_with fail
    go_quiet (fail)
    go_wp2_with fail
    go_roundw
    case rel=>exact⟨p,q+1,_,hp,by omega,by go_num,by go_num,hown4.drewN _,HTL.out _ rfl,Z1 (HBR.out.trans HB5.out) _⟩
    case measure=>simp[intOf];omega
  ·rw[if_neg hle]at HTL
   have hle2:¬max x.1 y.1<=min x.2 y.2:=hle
   have hle3:min x.2 y.2<max x.1 y.1:=by omega
   have HBR:=hid hbr
   clear hle
   by_cases hxy:x.2<y.2
   ·rw[if_pos hxy]at HTL
    go_wp2_with fail
    go_quiet (fail)
    go_wp2_with fail
    go_quiet (fail)
    go_wp2_with fail
    go_roundw
    case rel=>exact⟨p+1,q,os,by omega,hq,by go_num,by go_num,hown.drewN _,HTL.out _ (List.append_nil _).symm,Z1 HBR.out _⟩
    case measure=>simp[intOf];omega
   ·rw[if_neg hxy]at HTL
    go_wp2_with fail
    go_quiet (fail)
    go_wp2_with fail
    go_quiet (fail)
    go_wp2_with fail
    go_roundw
    case rel=>exact⟨p,q+1,os,hp,by omega,by go_num,by go_num,hown.drewN _,HTL.out _ (List.append_nil _).symm,Z1 HBR.out _⟩
    case measure=>simp[intOf];omega
theorem qWz {a b:List (Int×Int)}(ha:runsR none a=true)(hb:runsR none b=true):(meetL a b).length<=2*a.length+2*b.length+1:=by rw[qWw ha hb];exact JE a b 1
theorem qW0:Vs 94 1:=
 ⟨enters_of Tryz.func94 (by kernel_rfl) rfl,fun a b va vb W ha hb hra hrb hN hN'=>by
  rw[←qWw hra hrb]
  exact qWy a b va vb W ha hb hra hrb (by have:=qWz hra hrb;omega)⟩
theorem qW1 (a b:List Sp)(va vb:Value)(w:World)(ha:SlP w w.heap.size 3 SpE va a)(hb:SlP w w.heap.size 3 SpE vb b)(hra:Qm a=true)(hrb:Qm b=true)(hN:a.length<=20000)(hN':b.length<=20000) :
  Calls Tryz.prog 58 #[va,vb] w (RetO w 45 3 (fun _=>SpE) (ctxBy a b 1)):=by
 go_enter Tryz.func58,Tryz.ntmps58
 go_wp2_with fail
 refine (qZp a b 1 _ qW0 va vb w ha hb hra hrb hN hN').mono ?_
 rintro e w1 ⟨v,rfl,h⟩
 go_wp2_with fail
 go_ret
 exact⟨v,rfl,h⟩
theorem qY0 {c:List Sp}(h:Qm c=true):0<c.length↔∃ d,hasC c d=true:=by
 constructor
 ·intro hl
  obtain⟨s,hs⟩:∃ s,s∈c:=by
   rcases c with _|⟨s,c⟩
   ·simp at hl
   ·exact⟨s,by simp⟩
  have hd:=ZU c 0 (by unfold Qm at h;simp at h;exact h.1) s hs
  obtain⟨i,hi⟩:∃ i:Nat,(i:Int)=s.dc:=⟨s.dc.toNat,by omega⟩
  have hm:(s.fr,s.hi)∈partL c (i:Int):=by
   unfold partL
   exact List.mem_map.2 ⟨s,List.mem_filter.2 ⟨hs,by simp[hi]⟩,rfl⟩
  have hr:=Z4 h (i:=i) (by omega) _ hm
  unfold runOk at hr
  simp only at hr
  refine⟨⟨s.dc,s.fr⟩,?_⟩
  unfold hasC
  rw[Bool.and_eq_true]
  refine⟨?_,?_⟩
  ·unfold Dt.right;rw[decide_eq_true_eq];simp only;omega
  ·simp only
   rw[←hi]
   unfold hasL
   rw[List.any_eq_true]
   exact⟨_,hm,by unfold inR;simp only[Bool.and_eq_true,decide_eq_true_eq];omega⟩
 ·rintro⟨d,hd⟩
  rcases c with _|⟨s,c⟩
  ·unfold hasC at hd;simp[partL,hasL]at hd
  ·simp
theorem qY1 (dc fr hi x:Int):partL [⟨dc,fr,hi⟩] x=if dc=x then [(fr,hi)] else []:=Y9 [(fr,hi)] dc x
theorem qQ0 {dc fr hi:Int}(h1:Dt.right ⟨dc,fr⟩=true)(h2:Dt.right ⟨dc,hi⟩=true)(h3:fr<=hi):Qm [⟨dc,fr,hi⟩]=true:=by
 unfold Dt.right at h1 h2
 rw[decide_eq_true_eq]at h1 h2
 simp only at h1 h2
 unfold Qm
 rw[Bool.and_eq_true]
 refine⟨?_,?_⟩
 ·simp[dcsOk];omega
 ·rw[List.all_eq_true]
  intro i _
  rw[qY1]
  split
  ·rw[Qo];unfold runOk;simp only;exact⟨by omega,rfl,rfl⟩
  ·rfl
theorem qW2 (dc fr hi:Int)(d:Dt):hasC [⟨dc,fr,hi⟩] d=true↔d.right=true/\d.dc=dc/\fr<=d.n/\d.n<=hi:=by
 unfold hasC
 rw[qY1,Bool.and_eq_true]
 refine and_congr Iff.rfl ?_
 split
 ·rename_i e
  simp[hasL,inR,e]
 ·rename_i e
  simp only[hasL,List.any_nil,Bool.false_eq_true,false_iff]
  exact fun h=>e h.1.symm
theorem Jx {a b:List Sp}(ha:Qm a=true)(hb:Qm b=true)(d:Dt):hasC (ctxBy a b 1) d=(hasC a d&&hasC b d):=by
 cases hd:d.right
 ·unfold hasC;simp[hd]
 ·rw[qZy ha hb 1 hd];rfl
def someD (c:List Sp)(dc fr:Int)(n:Nat):Bool:=(List.range n).any fun k=>hasC c ⟨dc,fr+(k:Int)⟩
theorem XO {c:List Sp}{dc fr:Int}{n:Nat}:someD c dc fr n=true↔∃ k,k<n/\hasC c ⟨dc,fr+(k:Int)⟩=true:=by
 unfold someD
 rw[List.any_eq_true]
 simp[List.mem_range]
theorem qW3 {c:List Sp}(hc:Qm c=true){dc fr:Int}{n:Nat}(h1:Dt.right ⟨dc,fr⟩=true)(h2:Dt.right ⟨dc,fr+(n:Int)-1⟩=true)(hn:1<=n):(0<(ctxBy [⟨dc,fr,fr+(n:Int)-1⟩] c 1).length↔someD c dc fr n=true)/\(0<(ctxBy c [⟨dc,fr,fr+(n:Int)-1⟩] 1).length↔someD c dc fr n=true):=by
 have hr:=qQ0 h1 h2 (by omega)
 have hh:∀ d:Dt,(hasC [⟨dc,fr,fr+(n:Int)-1⟩] d=true/\hasC c d=true)->∃ k,k<n/\hasC c ⟨dc,fr+(k:Int)⟩=true:=fun d h=>by
  obtain⟨_,e,e1,e2⟩:=(qW2 _ _ _ _).1 h.1
  refine⟨(d.n-fr).toNat,by omega,?_⟩
  have:(⟨dc,fr+((d.n-fr).toNat:Int)⟩:Dt)=d:=by
   obtain⟨a,b⟩:=d
   simp only at e e1 e2
   rw[←e,Dt.mk.injEq]
   exact⟨rfl,by simp only;omega⟩
  rw[this];exact h.2
 have hg:(∃ k,k<n/\hasC c ⟨dc,fr+(k:Int)⟩=true)->∃ d:Dt,hasC [⟨dc,fr,fr+(n:Int)-1⟩] d=true/\hasC c d=true:=fun ⟨k,hk,h⟩=>
  ⟨_,(qW2 _ _ _ _).2 ⟨YX h,rfl,by simp only;omega,by simp only;omega⟩,h⟩
 refine⟨?_,?_⟩
 ·rw[qY0 (YW hr hc 1),XO]
  constructor
  ·rintro⟨d,h⟩
   rw[Jx hr hc,Bool.and_eq_true]at h
   exact hh d h
  ·intro h
   obtain⟨d,h⟩:=hg h
   exact⟨d,by rw[Jx hr hc,Bool.and_eq_true];exact h⟩
 ·rw[qY0 (YW hc hr 1),XO]
  constructor
  ·rintro⟨d,h⟩
   rw[Jx hc hr,Bool.and_eq_true]at h
   exact hh d ⟨h.2,h.1⟩
  ·intro h
   obtain⟨d,h⟩:=hg h
   exact⟨d,by rw[Jx hc hr,Bool.and_eq_true];exact⟨h.2,h.1⟩⟩
theorem qZ7 (t:Tr)(ve vk:Value)(w:World)(h:t.rd w w.heap.size ve vk)(hr:t.right 5=true)(hN:t.sz<=900000) :
  Calls Tryz.prog 45 #[.agg #[ve,vk]] w (RetT w t):=by
 have HC:Hid (∀ w',Below w.heap.size w w'->t.rd w' w'.heap.size ve vk):=fun w' hb=>Qi hb hb.size _ _ _ h
 obtain⟨A3,n3,A4,n4,rfl,rfl⟩:=Qj h
 have hb0:Below w.heap.size w ((w.alloc (.cells #[.slice A3 t.es.length n3,.slice A4 t.ks.length n4] 25)).alloc (.cells #[.slice none 0 0,.slice none 0 0] 25)):=((Below.refl _ w).alloc (Nat.le_refl _) _).alloc (by simp) _
 have HB0:=hid hb0
 have HW:Hid (∀ w',Below (w.heap.size+2) ((w.alloc (.cells #[.slice A3 t.es.length n3,.slice A4 t.ks.length n4] 25)).alloc (.cells #[.slice none 0 0,.slice none 0 0] 25)) w'->Below w.heap.size w w'/\w.heap.size+2<=w'.heap.size/\w'.heap[w.heap.size]?=some (.cells #[.slice A3 t.es.length n3,.slice A4 t.ks.length n4] 25 (0,0))/\w'.heap[w.heap.size+1]?=some (.cells #[.slice none 0 0,.slice none 0 0] 25 (0,0))):=fun w' hb=>by
  have hB:Below w.heap.size w w':=HB0.out.trans (hb.mono (by omega))
  exact⟨hB,by have:=hb.size;simpa using this,(hb.block _ (by omega)).trans ((Qg (by simp)).trans (Qd rfl)),(hb.block _ (by omega)).trans (Qd (by simp))⟩
 have HR:=hid hr
 clear h hr hb0
 go_enter Tryz.func45,Tryz.ntmps45
 go_wp2_with fail
 refine (QH t _ _ _ (HC.out _ HB0.out)).mono ?_
 rw[HR.out]
 rintro e w1 ⟨rfl,hb1⟩
 have HX:=hid (hb1.mono (show w.heap.size+2<=_ by simp))
 obtain⟨hB1,hs1,g2,g4⟩:=HW.out _ HX.out
 obtain⟨k0,k1⟩:=bx2 g2
 clear hb1 g2 g4
 go_wp2_with fail
 refine (YQ t w1 _ _ (HC.out _ hB1) hN).mono ?_
 rintro e w2 ⟨ve2,vk2,rfl,hrd,hb2⟩
 obtain⟨Av,nv,Aw,nw,rfl,rfl⟩:=Qk hrd
 have hs2:=hb2.size
 obtain⟨hB2,_,_,g4⟩:=HW.out _ (HX.out.trans (hb2.mono hs1))
 have HG4':=hid g4
 have HRU:=hid hrd
 clear hb2 hrd g4 k0 k1
 have k0:w2.cell? ⟨w.heap.size+1,0,none⟩=some (.slice none 0 0):=Qa (i:=0) HG4'.out
 have k1:w2.cell? ⟨w.heap.size+1,1,none⟩=some (.slice none 0 0):=Qa (i:=1) HG4'.out
 have z0:=Qb (i:=0) HG4'.out
 have z1:=Qb (i:=1) HG4'.out
 go_wp2_with fail
 obtain⟨r0,r1,hrW,hsW⟩:=ZE HG4'.out HRU.out (fun b hb=>by have:=hb.1;omega)
 refine bodyPost_ret (v:=.agg #[.slice Av t.es.length nv,.slice Aw t.ks.length nw]) (by simp[results,Tryz.results45,go_sem,r0,r1]) rfl ⟨_,_,rfl,?_,(hB2.setCell (by simp) _).setCell (by simp) _⟩
 exact Qq (fun _ _=>rfl) (fun b hb=>⟨by have:=hb.1;omega,by rw[hsW];exact hb.2⟩) _ _ _ hrW
def cloT (t:Tr)(c:List Sp):Tr:=if caR t c then t else .mk [] []
def cloC (t:Tr)(c:List Sp):List Sp:=if caR t c then c else []
theorem Jj (t:Tr)(c:List Sp)(ve vk vc:Value)(w:World)(h:t.rd w w.heap.size ve vk)(hc:SlP w w.heap.size 3 SpE vc c)(hN:t.sz<=4000)(hN':c.length<=20000) :
  Calls Tryz.prog 15 #[.agg #[ve,vk,vc]] w (RetC w (cloT t c) (cloC t c)):=by
 have HC:Hid (∀ w',Below w.heap.size w w'->(t.rd w' w'.heap.size ve vk/\SlP w' w'.heap.size 3 SpE vc c)):=fun w' hb=>⟨Qi hb hb.size _ _ _ h,hc.imp hb hb.size fun _ _ _ h=>h⟩
 obtain⟨A3,n3,A4,n4,rfl,rfl⟩:=Qj h
 obtain⟨A5,n5,rfl,_⟩:=hc
 have hb0:Below w.heap.size w ((w.alloc (.cells #[.slice A3 t.es.length n3,.slice A4 t.ks.length n4,.slice A5 c.length n5] 29)).alloc (.cells #[.slice none 0 0,.slice none 0 0,.slice none 0 0] 29)):=((Below.refl _ w).alloc (Nat.le_refl _) _).alloc (by simp) _
 have HB0:=hid hb0
 have HX:Hid (∀ W,Below (w.heap.size+2) ((w.alloc (.cells #[.slice A3 t.es.length n3,.slice A4 t.ks.length n4,.slice A5 c.length n5] 29)).alloc (.cells #[.slice none 0 0,.slice none 0 0,.slice none 0 0] 29)) W->Below w.heap.size w W/\W.heap[w.heap.size+1]?=some (.cells #[.slice none 0 0,.slice none 0 0,.slice none 0 0] 29 (0,0))/\w.heap.size+2<=W.heap.size/\(W.cell? ⟨w.heap.size,0,none⟩=some (.slice A3 t.es.length n3)/\W.cell? ⟨w.heap.size,1,none⟩=some (.slice A4 t.ks.length n4)/\W.cell? ⟨w.heap.size,2,none⟩=some (.slice A5 c.length n5))):=fun W hW=>by
  have g0:W.heap[w.heap.size]?=some (.cells #[.slice A3 t.es.length n3,.slice A4 t.ks.length n4,.slice A5 c.length n5] 29 (0,0)):=(hW.block _ (by omega)).trans ((Qg (by simp)).trans (Qd rfl))
  exact⟨HB0.out.trans (hW.mono (by omega)),(hW.block _ (by omega)).trans (Qd (by simp)),by have:=hW.size;simpa using this,Qa (i:=0) g0,Qa (i:=1) g0,Qa (i:=2) g0⟩
 clear h hb0
 go_enter Tryz.func15,Tryz.ntmps15
 obtain⟨_,_,_,q0,q1,q2⟩:=HX.out _ (Below.refl _ _)
 go_wp2_with fail
 refine (QT t c _ _ _ _ (HC.out _ HB0.out).1 (HC.out _ HB0.out).2 hN hN').mono ?_
 clear q0 q1 q2
 cases hr:caR t c
 ·rintro e w1 ⟨rfl,hb1⟩
  have hX:=hb1.mono (show w.heap.size+2<=_ by simp)
  obtain⟨hB,g,hs,q0,q1,q2⟩:=HX.out _ hX
  have HG:=hid g
  have e1:cloT t c=.mk [] []:=by unfold cloT;rw[hr];rfl
  have e2:cloC t c=[]:=by unfold cloC;rw[hr];rfl
  have HE1:=hid e1
  have HE2:=hid e2
  have k0:w1.cell? ⟨w.heap.size+1,0,none⟩=some (.slice none 0 0):=Qa (i:=0) g
  have k1:w1.cell? ⟨w.heap.size+1,1,none⟩=some (.slice none 0 0):=Qa (i:=1) g
  have k2:w1.cell? ⟨w.heap.size+1,2,none⟩=some (.slice none 0 0):=Qa (i:=2) g
  have z0:=Qb (i:=0) g
  have z1:=Qb (i:=1) g
  have z2:=Qb (i:=2) g
  clear g hr hb1 hX e1 e2
  go_wp2_with fail
  obtain⟨r0,r1,r2,hK,hS⟩:=box3 HG.out (.slice none 0 0) (.slice none 0 0) (.slice none 0 0)
  refine bodyPost_ret (v:=.agg #[.slice none 0 0,.slice none 0 0,.slice none 0 0]) (by simp[results,Tryz.results15,go_sem,r0,r1,r2]) rfl ⟨_,_,_,rfl,by rw[HE1.out];exact Qp _ _,by rw[HE2.out];exact SlA.nil,((hB.setCell (by simp) _).setCell (by simp) _).setCell (by simp) _⟩
 ·rintro e w1 ⟨rfl,hb1⟩
  have hX:=hb1.mono (show w.heap.size+2<=_ by simp)
  have HX1:=hid hX
  obtain⟨hB,_,hs,q0,q1,q2⟩:=HX.out _ hX
  have e1:cloT t c=t:=by unfold cloT;rw[hr];rfl
  have e2:cloC t c=c:=by unfold cloC;rw[hr];rfl
  have HE1:=hid e1
  have HE2:=hid e2
  have HR5:=hid (J6 hr)
  have hcl:c.length<=Few:=by unfold Few;omega
  have hneA:w.heap.size+1≠w.heap.size:=by omega
  clear hb1 hX hr e1 e2
  go_upto_region 3 with (fail)
  go_region_held3 (fun w'=>w'.cell? ⟨w.heap.size,0,none⟩=some (.slice A3 t.es.length n3)/\w'.cell? ⟨w.heap.size,1,none⟩=some (.slice A4 t.ks.length n4)/\w'.cell? ⟨w.heap.size,2,none⟩=some (.slice A5 c.length n5))
   (first|go_keep|exact (HX.out _ hbk3.out).2.2.2|exact (HX.out _ hbk2.out).2.2.2)
   (first
       |(go_at_call 45;go_loud ((refine (qZ7 t _ _ _ (HC.out _ (HX.out _ (HX1.out.trans (by go_grown))).1).1 HR5.out (by omega)).mono ?_);rintro e w2 ⟨ve1,vk1,rfl,hrd1,hb⟩;obtain⟨Av,nv,Aw,nw,rfl,rfl⟩:=Qk hrd1;have HR:=hid hrd1;have hbk2:Hid (Below (w.heap.size+2) ((w.alloc (.cells #[.slice A3 t.es.length n3,.slice A4 t.ks.length n4,.slice A5 c.length n5] 29)).alloc (.cells #[.slice none 0 0,.slice none 0 0,.slice none 0 0] 29)) w2):=hid ((HX1.out.trans (Below.trans (by go_grown) (hb.mono (by first|omega|(simp;done)|(simp;omega))))));clear hrd1 hb))
       |(go_at_call 37;go_loud ((refine (YP c _ w2 (HC.out _ (HX.out _ hbk2.out).1).2 hcl).mono ?_);rintro e w3 ⟨v2,rfl,ho2,hb2⟩;obtain⟨A7,c7,hv7⟩:=ho2.shape;subst hv7;have HO2:=hid ho2;have hbk3:=hid (hbk2.out.trans (hb2.mono (HX.out _ hbk2.out).2.2.1));have HG2:=hid (HX.out _ hbk3.out).2.1;have k0:w3.cell? ⟨w.heap.size+1,0,none⟩=some (.slice none 0 0):=Qa (i:=0) HG2.out;have k1:w3.cell? ⟨w.heap.size+1,1,none⟩=some (.slice none 0 0):=Qa (i:=1) HG2.out;have k2:w3.cell? ⟨w.heap.size+1,2,none⟩=some (.slice none 0 0):=Qa (i:=2) HG2.out;have z0:=Qb (i:=0) HG2.out;have z1:=Qb (i:=1) HG2.out;have z2:=Qb (i:=2) HG2.out;have HB2:=hid hb2;clear ho2 hb2)))
  all_goals (
   go_wp2_with fail
   have hs3:w.heap.size+2<=w3.heap.size:=(HX.out _ hbk3.out).2.2.1
   have hs2:w.heap.size+2<=w2.heap.size:=(HX.out _ hbk2.out).2.2.1
   have hs23:=HB2.out.size
   obtain⟨r0,r1,r2,hK,hS⟩:=box3 HG2.out (.slice Av t.es.length nv) (.slice Aw t.ks.length nw) (.slice A7 c.length c7)
   have hBW:Below w.heap.size w (((w3.setCell ⟨w.heap.size+1,0,none⟩ (.slice Av t.es.length nv)).setCell ⟨w.heap.size+1,1,none⟩ (.slice Aw t.ks.length nw)).setCell ⟨w.heap.size+1,2,none⟩ (.slice A7 c.length c7)):=(((HX.out _ hbk3.out).1.setCell (by simp) _).setCell (by simp) _).setCell (by simp) _
   clear k0 k1 k2 z0 z1 z2
   generalize (((w3.setCell ⟨w.heap.size+1,0,none⟩ (.slice Av t.es.length nv)).setCell ⟨w.heap.size+1,1,none⟩ (.slice Aw t.ks.length nw)).setCell ⟨w.heap.size+1,2,none⟩ (.slice A7 c.length c7))=W at *
   refine bodyPost_ret (v:=.agg #[.slice Av t.es.length nv,.slice Aw t.ks.length nw,.slice A7 c.length c7]) (by simp[results,Tryz.results15,go_sem,r0,r1,r2]) rfl ⟨_,_,_,rfl,?_,?_,hBW⟩
   ·rw[HE1.out]
    exact Qq (fun b hb=>(hK b (by have:=hb.1;simp only[World.size_drew]at this;omega)).trans (HB2.out.block b hb.2)) (fun b hb=>⟨by have:=hb.1;simp only[World.size_drew]at this;omega,by have:=hb.2;omega⟩) _ _ _ HR.out
   ·rw[HE2.out]
    exact (HO2.out.sla (by unfold Big;omega)).up (fun b hb=>hK b (by have:=hb.1;omega)) (fun b hb=>⟨by have:=hb.1;omega,by have:=hb.2.1;omega⟩) (fun _ _ _ h=>h))
def CaE (w:World)(B:Nat)(x:Tr×List Sp)(cs:List Value):Prop:=∃ ve vk vc,cs=[ve,vk,vc]/\x.1.rd w B ve vk/\SlP w B 3 SpE vc x.2
theorem zXp {t:Tr}{c:List Sp}(h:sml9 t c 40=true):t.sz<=40/\c.length<=40:=by
 unfold sml9 at h
 rw[Bool.and_eq_true]at h
 have h1:=zYi h.1
 have h2:=of_decide_eq_true h.2
 omega
theorem Calls.boolEq {P:Program}{f:FuncId}{args:Array Value}{w:World}{b c:Bool}(h:Calls P f args w fun e w'=>e=.returned (.bool b)/\Below w.heap.size w w')(hb:b=c):Calls P f args w fun e w'=>e=.returned (.bool c)/\Below w.heap.size w w':=hb▸h
theorem qKe (dc fr hi:Int)(w:World)(h1:Dt.right ⟨dc,fr⟩=true)(h2:Dt.right ⟨dc,hi⟩=true)(h3:fr<=hi) :
  Calls Tryz.prog 65 #[.int .i64 dc,.int .i64 fr,.int .i64 hi] w fun e w'=>∃ v,e=.returned (.tuple #[v,.int .i64 0])/\SlA w' (fun b=>w.heap.size<=b/\b<w'.heap.size) 3 SpE v [⟨dc,fr,hi⟩]/\Below w.heap.size w w':=by
 have H1:=hid h1
 have H2:=hid h2
 have hk:Sp.Ok ⟨dc,fr,hi⟩:=by
  unfold Dt.right at h1 h2
  rw[decide_eq_true_eq]at h1 h2
  simp only at h1 h2
  exact⟨by simp only;unfold I64;omega,by simp only;unfold I64;omega,by simp only;unfold I64;omega⟩
 have HK:=hid hk
 clear h1 h2 hk
 go_enter Tryz.func65,Tryz.ntmps65
 go_wp2_with fail
 refine (QC ⟨dc,fr⟩ _).mono ?_
 rw[H1.out]
 rintro e w1 ⟨rfl,hb1⟩
 go_wp2_with fail
 refine (QC ⟨dc,hi⟩ _).mono ?_
 rw[H2.out]
 rintro e w2 ⟨rfl,hb2⟩
 have hB:=hb1.trans (hb2.mono hb1.size)
 have hs:=hB.size
 have hn:¬hi<fr:=by omega
 clear hb1 hb2
 go_wp2_with fail
 refine bodyPost_ret (v:=.tuple #[.slice (some ⟨w2.heap.size,0,none⟩) 1 1,.int .i64 0]) (by simp[results,Tryz.results65,go_sem]) rfl ⟨_,rfl,SlA.one (E:=SpE) (x:=(⟨dc,fr,hi⟩:Sp)) (cs:=[.int .i64 dc,.int .i64 fr,.int .i64 hi]) ⟨rfl,HK.out⟩ rfl (Qd rfl) ⟨hs,by simp⟩,hB.alloc hs _⟩
def ownC:List Sp:=[⟨0,1099511627765,1099511627776⟩]
theorem qW4:Qm ownC=true:=qQ0 (by decide) (by decide) (by decide)
theorem qW5 (w:World):Calls Tryz.prog 59 #[] w fun e w'=>∃ v,e=.returned v/\SlA w' (fun b=>w.heap.size<=b/\b<w'.heap.size) 3 SpE v ownC/\Below w.heap.size w w':=by
 go_enter Tryz.func59,Tryz.ntmps59
 go_wp2_with fail
 refine (qKe 0 1099511627765 1099511627776 _ (by decide) (by decide) (by decide)).mono ?_
 rintro e w1 ⟨v,rfl,hs,hb⟩
 go_wp2_with fail
 go_ret
 exact⟨_,rfl,hs,hb⟩
theorem qY2 {c:List Sp}(h:Qm c=true):0<(ctxBy c ownC 1).length↔someD c 0 1099511627765 12=true:=
 (qW3 (n:=12) (dc:=0) (fr:=1099511627765) h (by decide) (by decide) (by decide)).2
theorem TxB.start {w5:World}{B:Nat}{a b c a' b' c':Value}{x y:Kn}(h1:x.1.rda w5 (fun k=>B<=k/\k<w5.heap.size) a b)(h2:SlA w5 (fun k=>B<=k/\k<w5.heap.size) 3 SpE c x.2)(h3:y.1.rda w5 (fun k=>B<=k/\k<w5.heap.size) a' b')(h4:SlA w5 (fun k=>B<=k/\k<w5.heap.size) 3 SpE c' y.2) :
  TxB (w5.alloc (.cells #[a,b,c,a',b',c',.slice none 0 0] 100)) w5.heap.size (fun k=>B<=k) (fun i=>if i=0 then (a,b,c) else (a',b',c')) (.slice none 0 0) x y []:=by
 have k1:Keeps (fun k=>B<=k/\k<w5.heap.size) w5 (w5.alloc (.cells #[a,b,c,a',b',c',.slice none 0 0] 100)):=fun k hk=>Qg hk.2
 have k2:∀ k,(B<=k/\k<w5.heap.size)->okGo (w5.alloc (.cells #[a,b,c,a',b',c',.slice none 0 0] 100)) w5.heap.size (.slice none 0 0) (fun k=>B<=k) k:=fun k hk=>⟨hk.1,by omega,by rw[World.size_alloc];omega,by simp[Value.ownBlock]⟩
 exact⟨Qd rfl,Qq k1 k2 _ _ _ h1,h2.up k1 k2 fun _ _ _ h=>h,Qq k1 k2 _ _ _ h3,h4.up k1 k2 fun _ _ _ h=>h,OwnD.nil,fun b hb=>by simp[Value.ownBlock]at hb⟩
def begE (x:Kn):Int:=if caR x.1 x.2 then (if someD x.2 0 1099511627765 12 then 1 else 0) else 1
def BegR (w:World)(x:Kn)(e:Ending)(w':World):Prop:=
 (begE x=1/\e=.returned (.tuple #[.pointer none,.int .i64 1])/\Below w.heap.size w w') ∨
 (begE x=0/\∃ g v,e=.returned (.tuple #[.pointer (some ⟨g,0,none⟩),.int .i64 0])/\w.heap.size<=g/\TxB w' g (fun b=>w.heap.size<=b) v (.slice none 0 0) x x []/\Below w.heap.size w w')
theorem qQ1 (x:Kn)(ve vk vc:Value)(w:World)(h:x.1.rd w w.heap.size ve vk)(hc:SlP w w.heap.size 3 SpE vc x.2)(hN:x.1.sz<=4000)(hN':x.2.length<=20000) :
  Calls Tryz.prog 27 #[.agg #[ve,vk,vc]] w (BegR w x):=by
 obtain⟨t,c⟩:=x
 simp only at h hc hN hN'
 have HC:Hid (∀ w',Below w.heap.size w w'->(t.rd w' w'.heap.size ve vk/\SlP w' w'.heap.size 3 SpE vc c)):=fun w' hb=>⟨Qi hb hb.size _ _ _ h,hc.imp hb hb.size fun _ _ _ h=>h⟩
 obtain⟨A3,n3,A4,n4,rfl,rfl⟩:=Qj h
 obtain⟨A5,n5,rfl,_⟩:=hc
 have hb0:Below w.heap.size w (w.alloc (.cells #[.slice A3 t.es.length n3,.slice A4 t.ks.length n4,.slice A5 c.length n5] 29)):=(Below.refl _ w).alloc (Nat.le_refl _) _
 have HB0:=hid hb0
 have HX:Hid (∀ W,Below (w.heap.size+1) (w.alloc (.cells #[.slice A3 t.es.length n3,.slice A4 t.ks.length n4,.slice A5 c.length n5] 29)) W->Below w.heap.size w W/\w.heap.size+1<=W.heap.size/\(W.cell? ⟨w.heap.size,0,none⟩=some (.slice A3 t.es.length n3)/\W.cell? ⟨w.heap.size,1,none⟩=some (.slice A4 t.ks.length n4)/\W.cell? ⟨w.heap.size,2,none⟩=some (.slice A5 c.length n5))):=fun W hW=>by
  have g0:W.heap[w.heap.size]?=some (.cells #[.slice A3 t.es.length n3,.slice A4 t.ks.length n4,.slice A5 c.length n5] 29 (0,0)):=(hW.block _ (by omega)).trans (Qd rfl)
  exact⟨HB0.out.trans (hW.mono (by omega)),by have:=hW.size;simpa using this,Qa (i:=0) g0,Qa (i:=1) g0,Qa (i:=2) g0⟩
 clear h hb0
 go_enter Tryz.func27,Tryz.ntmps27
 obtain⟨_,hs0,q0,q1,q2⟩:=HX.out _ (Below.refl _ _)
 go_upto_region 1 with (fail)
 cases hr:caR t c
 ·have HE:Hid (begE (t,c)=1):=by unfold Hid begE;simp[hr]
  have HQ:=hid (fun (wf:World) (hbf:Below (w.alloc (.cells #[.slice A3 t.es.length n3,.slice A4 t.ks.length n4,.slice A5 c.length n5] 29)).heap.size (w.alloc (.cells #[.slice A3 t.es.length n3,.slice A4 t.ks.length n4,.slice A5 c.length n5] 29)) wf)=>Calls.boolEq (QT t c _ _ _ wf (HC.out _ (HB0.out.trans (hbf.mono (by simp)))).1 (HC.out _ (HB0.out.trans (hbf.mono (by simp)))).2 hN hN') hr)
  have f0:=Qh (B:=(w.alloc (.cells #[.slice A3 t.es.length n3,.slice A4 t.ks.length n4,.slice A5 c.length n5] 29)).heap.size) q0 (by simp)
  have f1:=Qh (B:=(w.alloc (.cells #[.slice A3 t.es.length n3,.slice A4 t.ks.length n4,.slice A5 c.length n5] 29)).heap.size) q1 (by simp)
  have f2:=Qh (B:=(w.alloc (.cells #[.slice A3 t.es.length n3,.slice A4 t.ks.length n4,.slice A5 c.length n5] 29)).heap.size) q2 (by simp)
  clear hr q0 q1 q2 hs0
  refine Qc (w.alloc (.cells #[.slice A3 t.es.length n3,.slice A4 t.ks.length n4,.slice A5 c.length n5] 29)).heap.size (by kernel_rfl) (by kernel_rfl) ?_
  repeat (go_big_quiet_step (first|(go_at_call 34;with_reducible exact Calls.far_all (Nat.le_refl _) HQ.out)))
  refine wpQuiet_nil ?_
  intro w2 hb
  clear f0 f1 f2
  have hB:=HB0.out.trans (hb.mono (by simp))
  clear hb
  go_wp2_with fail
  exact bodyPost_ret (v:=.tuple #[.pointer none,.int .i64 1]) (by simp[results,Tryz.results27,go_sem]) rfl (.inl ⟨HE.out,rfl,hB⟩)
 ·have HAP:=hid (J7 hr)
  have HR:=hid hr
  have hml:(ctxBy c ownC 1).length<=Big:=by have:=YC c ownC 1;unfold Big ownC at *;simp at *;omega
  have HML:=hid hml
  have e1:cloT t c=t:=by unfold cloT;rw[hr];rfl
  have e2:cloC t c=c:=by unfold cloC;rw[hr];rfl
  have HE1:=hid e1
  have HE2:=hid e2
  clear hr hml e1 e2
  go_region_held3 (fun w'=>w'.cell? ⟨w.heap.size,0,none⟩=some (.slice A3 t.es.length n3)/\w'.cell? ⟨w.heap.size,1,none⟩=some (.slice A4 t.ks.length n4)/\w'.cell? ⟨w.heap.size,2,none⟩=some (.slice A5 c.length n5))
   (first|go_keep|exact (HX.out _ hbk3.out).2.2|exact (HX.out _ hbk2.out).2.2|exact (HX.out _ hbk1.out).2.2)
   (first
    |(go_at_call 34;go_loud ((refine (QT t c _ _ _ _ (HC.out _ (HX.out _ (by go_grown)).1).1 (HC.out _ (HX.out _ (by go_grown)).1).2 hN hN').mono ?_);rw[HR.out];rintro e w1 ⟨rfl,hb⟩;have hbk1:Hid (Below (w.heap.size+1) (w.alloc (.cells #[.slice A3 t.es.length n3,.slice A4 t.ks.length n4,.slice A5 c.length n5] 29)) w1):=hid (Below.trans (by go_grown) (hb.mono (by first|omega|(simp;done)|(simp;omega))));clear hb))
    |(go_at_call 59;go_loud ((refine (qW5 _).mono ?_);rintro e w2 ⟨v2,rfl,ho2,hb⟩;obtain⟨A7,c7,hv7⟩:=ho2.shape;subst hv7;have HO2:=hid ho2;have hbk2:Hid (Below (w.heap.size+1) (w.alloc (.cells #[.slice A3 t.es.length n3,.slice A4 t.ks.length n4,.slice A5 c.length n5] 29)) w2):=hid ((hbk1.out.trans (by go_grown)).trans (hb.mono (by first|exact (HX.out _ hbk1.out).2.1|omega|(simp;done)|(simp;omega))));clear ho2 hb))
    |(go_at_call 58;go_loud ((refine (qW1 c ownC _ _ _ (HC.out _ (HX.out _ (hbk2.out.trans (by go_grown))).1).2 (HO2.out.slp (fun b hb=>hb.2) (by go_grown)) HAP.out qW4 (by omega) (by unfold ownC;simp)).mono ?_);rintro e w3 ⟨v3,rfl,ho3,hb⟩;obtain⟨A8,c8,hv8⟩:=ho3.shape;subst hv8;have hbk3:Hid (Below (w.heap.size+1) (w.alloc (.cells #[.slice A3 t.es.length n3,.slice A4 t.ks.length n4,.slice A5 c.length n5] 29)) w3):=hid ((hbk2.out.trans (by go_grown)).trans (hb.mono (by first|exact (HX.out _ hbk2.out).2.1|omega|(simp;done)|(simp;omega))));clear ho3 hb))
    |fail)
  all_goals
   obtain⟨hB3,hs3,q0,q1,q2⟩:=HX.out _ hbk3.out
   have HB3:=hid hB3
   have HK3:=hid hbk3
   clear hB3
   cases hsd:someD c 0 1099511627765 12
   ·have hnl:¬0<(ctxBy c ownC 1).length:=fun h=>by rw[(qY2 HAP.out).1 h]at hsd;cases hsd
    have hnd:decide (0<(ctxBy c ownC 1).length)=false:=decide_eq_false hnl
    have hz:(ctxBy c ownC 1).length=0:=by omega
    have HE:Hid (begE (t,c)=0):=by unfold Hid begE;simp[HR.out,hsd]
    clear hsd
    go_upto_region 3 with (fail)
    go_region_held3 (fun w'=>w'.cell? ⟨w.heap.size,0,none⟩=some (.slice A3 t.es.length n3)/\w'.cell? ⟨w.heap.size,1,none⟩=some (.slice A4 t.ks.length n4)/\w'.cell? ⟨w.heap.size,2,none⟩=some (.slice A5 c.length n5))
     (first|go_keep|exact (HX.out _ hbk5.out).2.2|exact (HX.out _ hbk4.out).2.2)
     (first
      |(go_at_call 15;((refine (Jj t c _ _ _ _ (HC.out _ (HX.out _ (hbk4.out.trans (by go_grown))).1).1 (HC.out _ (HX.out _ (hbk4.out.trans (by go_grown))).1).2 hN hN').mono ?_);rw[HE1.out,HE2.out];rintro e w5 ⟨v5,u5,x5,rfl,hrd5,hsl5,hb⟩;obtain⟨A51,m51,A52,m52,hv1,hv2⟩:=Qk hrd5;subst hv1;subst hv2;obtain⟨A53,m53,hv3⟩:=hsl5.shape;subst hv3;have HR5:=hid hrd5;have HS5:=hid hsl5;have HB5:Hid (Below w4.heap.size w4 w5):=hid (Below.trans (by go_grown) (hb.mono (by first|omega|(simp;done)|(simp;omega))));have hbk5:Hid (Below (w.heap.size+1) (w.alloc (.cells #[.slice A3 t.es.length n3,.slice A4 t.ks.length n4,.slice A5 c.length n5] 29)) w5):=hid (hbk4.out.trans (HB5.out.mono (HX.out _ hbk4.out).2.1));clear hrd5 hsl5 hb))
      |(go_at_call 15;go_loud ((refine (Jj t c _ _ _ _ (HC.out _ (HX.out _ (HK3.out.trans (by go_grown))).1).1 (HC.out _ (HX.out _ (HK3.out.trans (by go_grown))).1).2 hN hN').mono ?_);rw[HE1.out,HE2.out];rintro e w4 ⟨v4,u4,x4,rfl,hrd4,hsl4,hb⟩;obtain⟨A41,m41,A42,m42,hv1,hv2⟩:=Qk hrd4;subst hv1;subst hv2;obtain⟨A43,m43,hv3⟩:=hsl4.shape;subst hv3;have HR4:=hid hrd4;have HS4:=hid hsl4;have hbk4:Hid (Below (w.heap.size+1) (w.alloc (.cells #[.slice A3 t.es.length n3,.slice A4 t.ks.length n4,.slice A5 c.length n5] 29)) w4):=hid ((HK3.out.trans (by go_grown)).trans (hb.mono (by first|exact (HX.out _ HK3.out).2.1|omega|(simp;done)|(simp;omega))));clear hrd4 hsl4 hb))
      |fail)
    all_goals
     have hs4:w.heap.size+1<=w4.heap.size:=(HX.out _ hbk4.out).2.1
     have hs45:=HB5.out.size
     have hB5:=(HX.out _ hbk5.out).1
     have hst:=TxB.start (w5:=w5) (B:=w.heap.size) (x:=(t,c)) (y:=(t,c)) (Qq (fun b hb=>HB5.out.block b hb.2) (fun b hb=>⟨by have:=hb.1;first|omega|(simp at this;omega),by have:=hb.2;omega⟩) _ _ _ HR4.out) (HS4.out.up (fun b hb=>HB5.out.block b hb.2) (fun b hb=>⟨by have:=hb.1;first|omega|(simp at this;omega),by have:=hb.2;omega⟩) fun _ _ _ h=>h) (Qq (fun _ _=>rfl) (fun b hb=>⟨by have:=hb.1;first|omega|(simp at this;omega),hb.2⟩) _ _ _ HR5.out) (HS5.out.up (fun _ _=>rfl) (fun b hb=>⟨by have:=hb.1;first|omega|(simp at this;omega),hb.2⟩) fun _ _ _ h=>h)
     have HST:=hid hst
     clear hst
     go_wp2_with fail
     exact bodyPost_ret (v:=.tuple #[.pointer (some ⟨w5.heap.size,0,none⟩),.int .i64 0]) (by simp[results,Tryz.results27,go_sem]) rfl (.inr ⟨HE.out,_,_,rfl,by omega,HST.out,hB5.alloc (by omega) _⟩)
   ·have hnl:0<(ctxBy c ownC 1).length:=(qY2 HAP.out).2 hsd
    have hnd:decide (0<(ctxBy c ownC 1).length)=true:=decide_eq_true hnl
    have HE:Hid (begE (t,c)=1):=by unfold Hid begE;simp[HR.out,hsd]
    clear hsd
    go_wp2_with fail
    exact bodyPost_ret (v:=.tuple #[.pointer none,.int .i64 1]) (by simp[results,Tryz.results27,go_sem]) rfl (.inl ⟨HE.out,rfl,HB3.out⟩)
theorem box7 {w:World}{g:Nat}{x0 x1 x2 x3 x4 x5 x6:Value}{ty:TypeId}(hbx:w.heap[g]?=some (.cells #[x0,x1,x2,x3,x4,x5,x6] ty (0,0)))(a b c d e f h:Value) :
  (((((((((w.setCell ⟨g,0,none⟩ a).setCell ⟨g,1,none⟩ b).setCell ⟨g,2,none⟩ c).setCell ⟨g,3,none⟩ d).setCell ⟨g,4,none⟩ e).setCell ⟨g,5,none⟩ f).setCell ⟨g,6,none⟩ h))).heap[g]?=some (.cells #[a,b,c,d,e,f,h] ty (0,0))/\(∀ k,k≠g->(((((((((w.setCell ⟨g,0,none⟩ a).setCell ⟨g,1,none⟩ b).setCell ⟨g,2,none⟩ c).setCell ⟨g,3,none⟩ d).setCell ⟨g,4,none⟩ e).setCell ⟨g,5,none⟩ f).setCell ⟨g,6,none⟩ h))).heap[k]?=w.heap[k]?)/\(((((((((w.setCell ⟨g,0,none⟩ a).setCell ⟨g,1,none⟩ b).setCell ⟨g,2,none⟩ c).setCell ⟨g,3,none⟩ d).setCell ⟨g,4,none⟩ e).setCell ⟨g,5,none⟩ f).setCell ⟨g,6,none⟩ h))).heap.size=w.heap.size/\(∀ B w0,B<=g->Below B w0 w->Below B w0 (((((((((w.setCell ⟨g,0,none⟩ a).setCell ⟨g,1,none⟩ b).setCell ⟨g,2,none⟩ c).setCell ⟨g,3,none⟩ d).setCell ⟨g,4,none⟩ e).setCell ⟨g,5,none⟩ f).setCell ⟨g,6,none⟩ h)))):=by
 have hW:=Qe (i:=6) (Qe (i:=5) (Qe (i:=4) (Qe (i:=3) (Qe (i:=2) (Qe (i:=1) (Qe (i:=0) hbx a) b) c) d) e) f) h
 refine⟨by rw[hW];simp,fun k hk=>?_,by simp[World.setCell],fun B w0 hB hb=>((((((hb.setCell hB _).setCell hB _).setCell hB _).setCell hB _).setCell hB _).setCell hB _).setCell hB _⟩
 exact (Below.heap_setCell _ _ _ _ hk).trans ((Below.heap_setCell _ _ _ _ hk).trans ((Below.heap_setCell _ _ _ _ hk).trans ((Below.heap_setCell _ _ _ _ hk).trans ((Below.heap_setCell _ _ _ _ hk).trans ((Below.heap_setCell _ _ _ _ hk).trans (Below.heap_setCell _ _ _ _ hk))))))
def RBegR (w:World)(x:Kn)(ve vk vc:Value)(e:Ending)(w':World):Prop:=
 ((begE x=1/\e=.returned (.tuple #[.agg #[.slice none 0 0,.slice none 0 0,.slice none 0 0,.slice none 0 0,.slice none 0 0,.slice none 0 0,.slice none 0 0],.int .i64 1]))∨(begE x=0/\e=.returned (.tuple #[.agg #[ve,vk,vc,.slice none 0 0,ve,vk,vc],.int .i64 0])))/\Below w.heap.size w w'
theorem Jp (x:Kn)(ve vk vc:Value)(w:World)(h:x.1.rd w w.heap.size ve vk)(hc:SlP w w.heap.size 3 SpE vc x.2)(hN:x.1.sz<=4000)(hN':x.2.length<=20000) :
  Calls Tryz.prog 28 #[.agg #[ve,vk,vc]] w (RBegR w x ve vk vc):=by
 obtain⟨t,c⟩:=x
 simp only at h hc hN hN'
 have HC:Hid (∀ w',Below w.heap.size w w'->(t.rd w' w'.heap.size ve vk/\SlP w' w'.heap.size 3 SpE vc c)):=fun w' hb=>⟨Qi hb hb.size _ _ _ h,hc.imp hb hb.size fun _ _ _ h=>h⟩
 obtain⟨A3,n3,A4,n4,rfl,rfl⟩:=Qj h
 obtain⟨A5,n5,rfl,_⟩:=hc
 have hb0:Below w.heap.size w ((w.alloc (.cells #[.slice A3 t.es.length n3,.slice A4 t.ks.length n4,.slice A5 c.length n5] 29)).alloc (.cells #[.slice none 0 0,.slice none 0 0,.slice none 0 0,.slice none 0 0,.slice none 0 0,.slice none 0 0,.slice none 0 0] 51)):=((Below.refl _ w).alloc (Nat.le_refl _) _).alloc (by simp) _
 have HB0:=hid hb0
 have HX:Hid (∀ W,Below (w.heap.size+2) ((w.alloc (.cells #[.slice A3 t.es.length n3,.slice A4 t.ks.length n4,.slice A5 c.length n5] 29)).alloc (.cells #[.slice none 0 0,.slice none 0 0,.slice none 0 0,.slice none 0 0,.slice none 0 0,.slice none 0 0,.slice none 0 0] 51)) W->Below w.heap.size w W/\w.heap.size+2<=W.heap.size/\W.heap[w.heap.size+1]?=some (.cells #[.slice none 0 0,.slice none 0 0,.slice none 0 0,.slice none 0 0,.slice none 0 0,.slice none 0 0,.slice none 0 0] 51 (0,0))/\W.cell? ⟨w.heap.size,0,none⟩=some (.slice A3 t.es.length n3)/\W.cell? ⟨w.heap.size,1,none⟩=some (.slice A4 t.ks.length n4)/\W.cell? ⟨w.heap.size,2,none⟩=some (.slice A5 c.length n5)):=fun W hW=>by
  have g0:W.heap[w.heap.size]?=some (.cells #[.slice A3 t.es.length n3,.slice A4 t.ks.length n4,.slice A5 c.length n5] 29 (0,0)):=(hW.block _ (by omega)).trans ((Qg (by simp)).trans (Qd rfl))
  exact⟨HB0.out.trans (hW.mono (by omega)),by have:=hW.size;simpa using this,(hW.block _ (by omega)).trans (Qd (by simp)),Qa (i:=0) g0,Qa (i:=1) g0,Qa (i:=2) g0⟩
 have hneA:w.heap.size+1≠w.heap.size:=by omega
 clear h hb0
 go_enter Tryz.func28,Tryz.ntmps28
 obtain⟨_,hs0,_,q0,q1,q2⟩:=HX.out _ (Below.refl _ _)
 go_wp2_with fail
 refine (qQm t c _ _ _ _ (HC.out _ HB0.out).1 (HC.out _ HB0.out).2 hN hN').mono ?_
 rw[←zZp]
 clear q0 q1 q2 hs0
 cases hr:caR t c
 ·rintro e w1 ⟨rfl,hb1⟩
  obtain⟨hB1,hs1,hG,q0,q1,q2⟩:=HX.out _ (hb1.mono (show w.heap.size+2<=_ by simp))
  have HE:Hid (begE (t,c)=1):=by unfold Hid begE;simp[hr]
  have HG:=hid hG
  have HB1:=hid hB1
  obtain⟨k0,k1,k2,k3,k4,k5,k6,z0,z1,z2,z3,z4,z5,z6⟩:=bz7 hG
  clear hr hG hB1 hb1
  go_wp2_with fail
  obtain⟨hW7,hK7,hS7,hB7⟩:=box7 HG.out (.slice none 0 0) (.slice none 0 0) (.slice none 0 0) (.slice none 0 0) (.slice none 0 0) (.slice none 0 0) (.slice none 0 0)
  obtain⟨r0,r1,r2,r3,r4,r5,r6⟩:=bx7 hW7
  exact bodyPost_ret (v:=.tuple #[.agg #[(.slice none 0 0),(.slice none 0 0),(.slice none 0 0),(.slice none 0 0),(.slice none 0 0),(.slice none 0 0),(.slice none 0 0)],.int .i64 1]) (by simp[results,Tryz.results28,go_sem,r0,r1,r2,r3,r4,r5,r6]<;>rfl) rfl ⟨.inl ⟨HE.out,rfl⟩,hB7 _ _ (by omega) HB1.out⟩
 ·rintro e w1 ⟨rfl,hb1⟩
  have hX1:=hb1.mono (show w.heap.size+2<=_ by simp)
  have HX1:=hid hX1
  have HR:=hid hr
  clear hb1 hX1 hr
  go_wp2_with fail
  go_loopw [9] (fun i wr=>∃ k:Nat,k<=12/\i=.int .i64 k/\Hid (∀ j,j<k->hasC c (txD j)=false)/\Below (w.heap.size+2) ((w.alloc (.cells #[.slice A3 t.es.length n3,.slice A4 t.ks.length n4,.slice A5 c.length n5] 29)).alloc (.cells #[.slice none 0 0,.slice none 0 0,.slice none 0 0,.slice none 0 0,.slice none 0 0,.slice none 0 0,.slice none 0 0] 51)) wr) (fun i _=>12-(intOf i).toNat)
  case atStart=>exact⟨0,by omega,rfl,fun j hj=>absurd hj (Nat.not_lt_zero _),HX1.out⟩
  case round=>
   obtain⟨k,hk,rfl,hno,hb⟩:=hrel
   have HB:=hid hb
   obtain⟨hB1,hs1,hG,q0,q1,q2⟩:=HX.out _ hb
   clear hb
   by_cases hlt:k<12
   ·have hkk:(k:Int)<12:=by omega
    have hwr:IntKind.i64.wrap (1099511627765+(k:Int))=1099511627765+(k:Int):=IntWalk.i64_in _ (by omega)
    clear hG
    go_wp2_with fail
    refine (ZK c ⟨0,1099511627765+(k:Int)⟩ _ _ (HC.out _ hB1).2 (by omega)).mono ?_
    cases hh:hasC c ⟨0,1099511627765+(k:Int)⟩
    ·rintro e w2 ⟨rfl,hb2⟩
     have HN2:Hid (∀ j,j<k+1->hasC c (txD j)=false):=fun j hj=>by
      rcases (show j<k∨j=k by omega) with h|rfl
      ·exact hno.out j h
      ·exact hh
     have HB2:=hid (HB.out.trans (hb2.mono hs1))
     clear hh hb2 hB1
     go_wp2_with fail
     go_roundw
     case rel=>exact⟨k+1,by omega,by go_num,HN2,HB2.out⟩
     case measure=>simp[intOf];omega
    ·rintro e w2 ⟨rfl,hb2⟩
     have HE:Hid (begE (t,c)=1):=by
      unfold Hid begE
      have:someD c 0 1099511627765 12=true:=XO.2 ⟨k,hlt,hh⟩
      simp[HR.out,this]
     clear q0 q1 q2
     obtain⟨hB2,hs2,hG,q0,q1,q2⟩:=HX.out _ (HB.out.trans (hb2.mono hs1))
     have HG:=hid hG
     have HB2:=hid hB2
     obtain⟨k0,k1,k2,k3,k4,k5,k6,z0,z1,z2,z3,z4,z5,z6⟩:=bz7 hG
     clear hG hB2 hb2 hh hB1
     go_wp2_with fail
     obtain⟨hW7,hK7,hS7,hB7⟩:=box7 HG.out (.slice none 0 0) (.slice none 0 0) (.slice none 0 0) (.slice none 0 0) (.slice none 0 0) (.slice none 0 0) (.slice none 0 0)
     obtain⟨r0,r1,r2,r3,r4,r5,r6⟩:=bx7 hW7
     exact bodyPost_ret (v:=.tuple #[.agg #[(.slice none 0 0),(.slice none 0 0),(.slice none 0 0),(.slice none 0 0),(.slice none 0 0),(.slice none 0 0),(.slice none 0 0)],.int .i64 1]) (by simp[results,Tryz.results28,go_sem,r0,r1,r2,r3,r4,r5,r6]<;>rfl) rfl ⟨.inl ⟨HE.out,rfl⟩,hB7 _ _ (by omega) HB2.out⟩
   ·have hke:k=12:=by omega
    subst hke
    have HE:Hid (begE (t,c)=0):=by
     unfold Hid begE
     have:someD c 0 1099511627765 12=false:=by
      rw[Bool.eq_false_iff]
      intro h
      obtain⟨j,hj,hh⟩:=XO.1 h
      have:=hno.out j hj
      unfold txD at this
      rw[this]at hh;cases hh
     simp[HR.out,this]
    have HG:=hid hG
    have HB1:=hid hB1
    obtain⟨k0,k1,k2,k3,k4,k5,k6,z0,z1,z2,z3,z4,z5,z6⟩:=bz7 hG
    clear hG hB1
    go_wp2_with fail
    obtain⟨hW7,hK7,hS7,hB7⟩:=box7 HG.out (.slice A3 t.es.length n3) (.slice A4 t.ks.length n4) (.slice A5 c.length n5) (.slice none 0 0) (.slice A3 t.es.length n3) (.slice A4 t.ks.length n4) (.slice A5 c.length n5)
    obtain⟨r0,r1,r2,r3,r4,r5,r6⟩:=bx7 hW7
    exact bodyPost_ret (v:=.tuple #[.agg #[(.slice A3 t.es.length n3),(.slice A4 t.ks.length n4),(.slice A5 c.length n5),(.slice none 0 0),(.slice A3 t.es.length n3),(.slice A4 t.ks.length n4),(.slice A5 c.length n5)],.int .i64 0]) (by simp[results,Tryz.results28,go_sem,r0,r1,r2,r3,r4,r5,r6]<;>rfl) rfl ⟨.inr ⟨HE.out,rfl⟩,hB7 _ _ (by omega) HB1.out⟩
end Go.Proofs.YtbcoelggdikipaaGreat
