/- What the laws need. No condition but those that each lemma states. -/
import Derived.Test.YtbcoelggdikipaaGreatUq7
import Derived.Test.YtbcoelggdikipaaGreatUq8
import Derived.Test.YtbcoelggdikipaaGreatUq9
import Derived.Test.YtbcoelggdikipaaGreatUq5
import Derived.Test.YtbcoelggdikipaaGreatUq6
import Derived.Test.YtbcoelggdikipaaGreatUq2
import Derived.Test.YtbcoelggdikipaaGreatUq3
import Derived.Test.YtbcoelggdikipaaGreatUq1
set_option maxRecDepth 100000
set_option maxHeartbeats 8000000
set_option linter.unusedSimpArgs false
namespace Go.Proofs.YtbcoelggdikipaaGreat
open Go.RowKit
theorem qKj (t:Tr)(d:Dt)(ve vk:Value)(w:World)(h:t.rd w w.heap.size ve vk)(hN:t.sz<=4000)(hd:d.Ok) :
  Calls Tryz.prog 144 #[.agg #[ve,vk],.agg #[.int .i64 d.dc,.int .i64 d.n]] w (RetCE w (.mk [] []) (disC t d) (chkI t d)):=by
 have hdl:=Zc t
 have h2:=QL t.dots
 have h3:=QL [d]
 simp only[List.length_singleton]at h3
 have HC:Hid (∀ w',Below w.heap.size w w'->t.rd w' w'.heap.size ve vk):=fun w' hb=>Qi hb hb.size _ _ _ h
 obtain⟨A3,n3,A4,n4,rfl,rfl⟩:=Qk h
 have hb0:=(((Below.refl w.heap.size w).alloc (Nat.le_refl _) (.cells #[.slice A3 t.es.length n3,.slice A4 t.ks.length n4] 25)).alloc (by simp) (.cells #[.int .i64 d.dc,.int .i64 d.n] 78)).alloc (by simp;omega) (.cells #[.slice none 0 0,.slice none 0 0,.slice none 0 0] 29)
 clear h
 go_enter Tryz.func144,Tryz.ntmps144
 go_wp2_with fail
 refine (Zs t d _ _ _ (HC.out _ hb0) (by omega)).mono ?_
 rintro e w1 ⟨rfl,hb1⟩
 have hs1:=hb1.size
 simp only[World.size_alloc]at hs1
 have hB1:Below w.heap.size w w1:=hb0.trans (hb1.mono (by simp;omega))
 have c0:w1.cell? ⟨w.heap.size,0,none⟩=some (.slice A3 t.es.length n3):=by
  rw[hb1.cell (p:=⟨w.heap.size,0,none⟩) (by simp;omega)]
  rw[World.cell?_alloc_lt _ _ _ (by simp;omega),World.cell?_alloc_lt _ _ _ (by simp)];simp
 have c1:w1.cell? ⟨w.heap.size,1,none⟩=some (.slice A4 t.ks.length n4):=by
  rw[hb1.cell (p:=⟨w.heap.size,1,none⟩) (by simp;omega)]
  rw[World.cell?_alloc_lt _ _ _ (by simp;omega),World.cell?_alloc_lt _ _ _ (by simp)];simp
 have d0:w1.cell? ⟨w.heap.size+1,0,none⟩=some (.int .i64 d.dc):=by rw[hb1.cell (p:=⟨w.heap.size+1,0,none⟩) (by simp),World.cell?_alloc_lt _ _ _ (by simp)];simp
 have d1:w1.cell? ⟨w.heap.size+1,1,none⟩=some (.int .i64 d.n):=by rw[hb1.cell (p:=⟨w.heap.size+1,1,none⟩) (by simp),World.cell?_alloc_lt _ _ _ (by simp)];simp
 have hg:w1.heap[w.heap.size+2]?=some (.cells #[.slice none 0 0,.slice none 0 0,.slice none 0 0] 29 (0,0)):=(hb1.block (w.heap.size+2) (by simp)).trans (Qd (by simp))
 have HG:=hid hg
 have k0:w1.cell? ⟨w.heap.size+2,0,none⟩=some (.slice none 0 0):=Qa (i:=0) hg
 have k1:w1.cell? ⟨w.heap.size+2,1,none⟩=some (.slice none 0 0):=Qa (i:=1) hg
 have k2:w1.cell? ⟨w.heap.size+2,2,none⟩=some (.slice none 0 0):=Qa (i:=2) hg
 have z0:=Qb (i:=0) hg
 have z1:=Qb (i:=1) hg
 have z2:=Qb (i:=2) hg
 clear hg hb1
 cases hc:chkT t d
 ·have HE:Hid (chkI t d=1):=by unfold Hid chkI;rw[hc];rfl
  have HD:Hid (disC t d=[]):=by unfold Hid disC;rw[hc];rfl
  rw[HE.out]
  clear hc
  go_wp2_with fail
  obtain⟨r0,r1,r2,hK,hS⟩:=box3 HG.out (.slice none 0 0) (.slice none 0 0) (.slice none 0 0)
  have hBW:=((hB1.setCell (p:=⟨w.heap.size+2,0,none⟩) (by simp) (.slice none 0 0)).setCell (p:=⟨w.heap.size+2,1,none⟩) (by simp) (.slice none 0 0)).setCell (p:=⟨w.heap.size+2,2,none⟩) (by simp) (.slice none 0 0)
  refine bodyPost_ret (v:=.tuple #[.agg #[.slice none 0 0,.slice none 0 0,.slice none 0 0],.int .i64 1]) (by simp[results,Tryz.results144,go_sem,r0,r1,r2]) rfl ⟨_,_,_,by rw[HE.out],?_,?_,hBW⟩
  ·exact Qo _ _
  ·rw[HD.out];exact SlA.nil
 ·have HE:Hid (chkI t d=0):=by unfold Hid chkI;rw[hc];rfl
  have HD:Hid (disC t d=ctxBy (ctxOf t.dots) (ctxOf [d]) 0):=by unfold Hid disC;rw[hc];rfl
  have hdr:=Zt hc
  have htr:=Ym hc
  have HAA:=hid (Qr (Q3 t 5 htr))
  have HAB:=hid (Qr (ZY hdr))
  have HDR:=hid (ZY hdr)
  have HDO:=hid hd
  rw[HE.out]
  clear hc
  go_wp2_with fail
  refine (YI t _ _ w1 (HC.out _ hB1) (by omega)).mono ?_
  rintro e w2 ⟨v1,n1,rfl,hn1,ho1,hb2⟩
  rw[htr]at ho1 hn1
  obtain rfl:n1=0:=hn1
  rw[if_pos rfl]at ho1
  obtain⟨A1,m1,rfl⟩:=ho1.shape
  have hs2:=hb2.size
  have hB2:Below w.heap.size w w2:=hB1.trans (hb2.mono (by omega))
  have HO1:=hid ho1
  have e0:w2.cell? ⟨w.heap.size+1,0,none⟩=some (.int .i64 d.dc):=(hb2.cell (p:=⟨w.heap.size+1,0,none⟩) (by show w.heap.size+1<_;omega)).trans d0
  have e1:w2.cell? ⟨w.heap.size+1,1,none⟩=some (.int .i64 d.n):=(hb2.cell (p:=⟨w.heap.size+1,1,none⟩) (by show w.heap.size+1<_;omega)).trans d1
  clear ho1 hdr htr k0 k1 k2 z0 z1 z2 c0 c1 d0 d1
  go_wp2_with fail
  refine (Jd [d] _ _ (SlP.oneB (E:=DtE) (x:=d) (cs:=[.int .i64 d.dc,.int .i64 d.n]) ⟨rfl,HDO.out⟩ rfl _ rfl (by simp)) HDR.out (by simp)).mono ?_
  rintro e w3 ⟨v2,rfl,ho2,hb3⟩
  obtain⟨A2,m2,rfl⟩:=ho2.shape
  have hs3:=hb3.size
  simp only[World.size_alloc]at hs3
  have hb3':Below w2.heap.size w2 w3:=((Below.refl _ w2).alloc (Nat.le_refl _) _).trans (hb3.mono (by simp))
  have H1:=hid ((HO1.out.grow hb3').sl (by unfold Big;omega))
  have H2:=hid (ho2.sl (by unfold Big;omega))
  clear ho2 hb3 e0 e1
  go_wp2_with fail
  refine (YY (ctxOf t.dots) (ctxOf [d]) _ _ w3 H1.out H2.out HAA.out HAB.out (by omega) (by omega)).mono ?_
  rintro e w4 ⟨v3,rfl,ho3,hb4⟩
  obtain⟨A5,c5,rfl⟩:=ho3.shape
  have hs4:=hb4.size
  have hB4:Below w.heap.size w w4:=(hB2.trans (hb3'.mono (by omega))).trans (hb4.mono (by omega))
  have HG2:=hid ((hb4.block (w.heap.size+2) (by omega)).trans ((hb3'.block (w.heap.size+2) (by omega)).trans ((hb2.block (w.heap.size+2) (by omega)).trans HG.out)))
  have k0:w4.cell? ⟨w.heap.size+2,0,none⟩=some (.slice none 0 0):=Qa (i:=0) HG2.out
  have k1:w4.cell? ⟨w.heap.size+2,1,none⟩=some (.slice none 0 0):=Qa (i:=1) HG2.out
  have k2:w4.cell? ⟨w.heap.size+2,2,none⟩=some (.slice none 0 0):=Qa (i:=2) HG2.out
  have z0:=Qb (i:=0) HG2.out
  have z1:=Qb (i:=1) HG2.out
  have z2:=Qb (i:=2) HG2.out
  have HO3:=hid ho3
  have hsc:=Yn (ctxOf t.dots) (ctxOf [d]) 0
  clear ho3
  go_wp2_with fail
  obtain⟨r0,r1,r2,hK,hS⟩:=box3 HG2.out (.slice none 0 0) (.slice none 0 0) (.slice A5 (ctxBy (ctxOf t.dots) (ctxOf [d]) 0).length c5)
  have hBW:=((hB4.setCell (p:=⟨w.heap.size+2,0,none⟩) (by simp) (.slice none 0 0)).setCell (p:=⟨w.heap.size+2,1,none⟩) (by simp) (.slice none 0 0)).setCell (p:=⟨w.heap.size+2,2,none⟩) (by simp) (.slice A5 (ctxBy (ctxOf t.dots) (ctxOf [d]) 0).length c5)
  refine bodyPost_ret (v:=.tuple #[.agg #[.slice none 0 0,.slice none 0 0,.slice A5 (ctxBy (ctxOf t.dots) (ctxOf [d]) 0).length c5],.int .i64 0]) (by simp[results,Tryz.results144,go_sem,r0,r1,r2]) rfl ⟨_,_,_,by rw[HE.out],Qo _ _,?_,hBW⟩
  rw[HD.out]
  refine (HO3.out.sla (by unfold Big;omega)).up (fun b hb=>hK b (by have:=hb.1;omega)) (fun b hb=>⟨by have:=hb.1;omega,by rw[hS];exact hb.2.1⟩) (fun _ _ _ h=>h)
theorem QW {t:Tr}(h:t.right 5=true):∀ p:List ByteArray,(getK t p).right 5=true:=fun p=>by
 unfold getK
 induction p generalizing t with
 |nil=>exact h
 |cons k p ih=>exact ih (Vh h k)
theorem XQ {t:Tr}(h:t.right 5=true){x:Dt}:∀ p:List ByteArray,x∈(getK t p).dots->x∈t.dots:=fun p=>by
 unfold getK
 induction p generalizing t with
 |nil=>exact id
 |cons k p ih=>exact fun hx=>zQ1 (Zd _ _ h) (ih (Vh h k) hx)
theorem VM (t:Tr)(p q:List ByteArray):getK t (p++q)=getK (getK t p) q:=by unfold getK;rw[List.foldl_append]
theorem Q1 (t:Tr):∀ p:List ByteArray,(getK t p).sz<=t.sz:=fun p=>by
 unfold getK
 induction p generalizing t with
 |nil=>exact Nat.le_refl _
 |cons k p ih=>exact Nat.le_trans (ih (kidT t k)) (YG t k)
theorem XR {t:Tr}(h:t.right 5=true)(p:List ByteArray):tgetT t p=getK t p:=by unfold tgetT;rw[h];rfl
theorem qXc {t:Tr}{d:Dt}(h:t.right 5=true)(hd:d.right=true)(hn:d∉t.dots):chkT t d=true:=by
 unfold chkT
 have h1:hasC (ctxOf t.dots) d=false:=by
  cases h2:hasC (ctxOf t.dots) d
  ·rfl
  ·exact absurd ((YL h).1 h2) hn
 rw[h,hd,h1];rfl
theorem zX0 {t:Tr}{d:Dt}(h:chkT t d=true)(p:List ByteArray):chkT (getK t p) d=true:=by
 obtain⟨g1,g2,g3⟩:=ZA h
 exact qXc (QW g1 p) g2 fun hx=>g3 (XQ g1 p hx)
theorem Z0 {e:En}:∀ {q:List ByteArray}{x:Lf},x∈(pathT q e).lvs []↔x=(q,e)
 |[],x=>by simp[pathT,Tr.lvs,Tr.lvsL]
 |k :: q,x=>by
  rw[pathT,Vy]
  constructor
  ·rintro (⟨_,h⟩|⟨k',t,qs,hm,h1,h2⟩)
   ·cases h
   ·simp at hm
    obtain⟨rfl,rfl⟩:=hm
    have h3:=Z0.1 h2
    obtain⟨p,y⟩:=x
    simp only[Prod.mk.injEq]at h3
    simp only at h1
    rw[h1,h3.1,h3.2]
  ·rintro rfl
   exact .inr ⟨k,pathT q e,q,by simp,rfl,Z0.2 rfl⟩
theorem qYv {e:En}:∀ q:List ByteArray,(pathT q e).empty=false
 |[]=>rfl
 |_ :: _=>rfl
theorem YM {e:En}:∀ {q:List ByteArray},(∀ k∈q,keyB k=true)->(pathT q e).Ord
 |[],_=>Ord.mk' (List.pairwise_singleton _ _) .nil fun _ _ h=>by cases h
 |k :: q,h=>Ord.mk' .nil (List.pairwise_singleton _ _) fun k' t hm=>by
  simp at hm
  obtain⟨rfl,rfl⟩:=hm
  exact⟨qZq (h _ (by simp)),qYv q,YM fun x hx=>h x (by simp[hx])⟩
theorem qQ3 {e:En}:∀ q:List ByteArray,(pathT q e).dep=q.length+1
 |[]=>by simp[pathT,Tr.dep,Tr.depL]
 |k :: q=>by rw[pathT,Tr.dep,Tr.depL,Tr.depL,qQ3 q];simp
theorem qYw {e:En}:∀ q:List ByteArray,(pathT q e).sz=q.length+1
 |[]=>by simp[pathT,Tr.sz,Tr.szL]
 |k :: q=>by rw[pathT,Tr.sz,Tr.szL,Tr.szL,qYw q];simp;omega
theorem qYx {e:En}{q:List ByteArray}{c:List Sp}(hq:∀ k∈q,keyB k=true)(hl:q.length<=4)(he:e.right=true)(hc:Qm c=true)(hh:hasC c e.dot=true):CaOk (pathT q e) c:=
 ⟨YM hq,fun x hx=>by rw[Z0.1 hx];exact⟨by simp only;omega,hq,he⟩,hc,fun x hx=>by rw[Z0.1 hx];exact hh⟩
theorem qXd {e:En}{q:List ByteArray}(hq:∀ k∈q,keyB k=true):Qz [(q,e)]=pathT q e:=
 Vz (YM hq) ⟨fun x hx k hk=>by simp at hx;subst hx;exact qZq (hq k hk),fun x hx y hy _ _=>by simp at hx hy;rw[hx,hy]⟩ fun x=>by rw[Z0,List.mem_singleton]
theorem zQ2 {e:En}{q:List ByteArray}(hq:∀ k∈q,keyB k=true)(p:List ByteArray)(d:Dt):stE (pathT q e) p d=if p=q/\d=e.dot then some e else none:=by
 split
 ·rename_i h
  obtain⟨rfl,rfl⟩:=h
  exact (QA (YM hq)).2 ⟨Z0.2 rfl,rfl⟩
 ·rename_i h
  refine (JE (YM hq)).2 fun y hy hd=>h ?_
  have:=Z0.1 hy
  cases this
  exact⟨rfl,hd.symm⟩
def leafX (u:Tr)(o:Opr)(d:Dt):Tr×List Sp×Int:=
 if o.act=1 then (enT u d,disC u d,chkI u d) else if o.act=2 then (.mk [] [],disC u d,chkI u d) else if o.act=3 then (addT u o.s d,addC u o.s d,addE u o.s d)
 else if o.act=4 then (.mk [] [],delC u o.s d,sckI u o.s d) else if o.act=5 then (incT u o.n d,incC u o.n d,incE u o.n d) else if o.act=6 then (wrtT u o.s d,wrtC u o.s d,wrtE u o.s d)
 else (.mk [] [],disC u d,chkI u d)
def updX (t:Tr)(p:List ByteArray)(i:Nat)(x:Tr×List Sp×Int):Tr×List Sp×Int:=
 (updT (tgetT t (p.take i)) ((p[i]?).getD ByteArray.empty) x.1 x.2.1,updC (tgetT t (p.take i)) ((p[i]?).getD ByteArray.empty) x.1 x.2.1,updE (tgetT t (p.take i)) ((p[i]?).getD ByteArray.empty) x.1 x.2.1)
def ZF (t:Tr)(p:List ByteArray):Nat->Tr×List Sp×Int->Tr×List Sp×Int
 |0,x=>x
 |i+1,x=>if x.2.2=0 then ZF t p i (updX t p i x) else x
theorem Y5 {t:Tr}{p:List ByteArray}{x:Tr×List Sp×Int}(h:x.2.2≠0):∀ i,ZF t p i x=x
 |0=>rfl
 |i+1=>by rw[ZF,if_neg h]
theorem Yq {t:Tr}{p tl:List ByteArray}{e:En}{c:List Sp}(hr:t.right 5=true)(hp:∀ k∈p,keyB k=true)(ht:∀ k∈tl,keyB k=true)(hl:p.length+tl.length<=4)(he:e.right=true)(hc:Qm c=true)(hh:hasC c e.dot=true) :
  ∀ i,i<=p.length->(if (List.range i).any (fullAt t p) then (ZF t p i (pathT (p.drop i++tl) e,c,0)).2.2=4 else ZF t p i (pathT (p.drop i++tl) e,c,0)=(pathT (p++tl) e,c,0))
 |0,_=>by simp[ZF]
 |i+1,hi=>by
  have hlt:i<p.length:=by omega
  have hx:=List.getElem?_eq_getElem hlt
  have hmem:=List.mem_of_getElem? hx
  have hq:∀ k∈p.drop (i+1)++tl,keyB k=true:=fun k hk=>by
   rcases List.mem_append.1 hk with hk|hk
   ·exact hp k (List.mem_of_mem_drop hk)
   ·exact ht k hk
  have hql:(p.drop (i+1)++tl).length<=3:=by rw[List.length_append,List.length_drop];omega
  have hok:=qYx (c:=c) hq (by omega) he hc hh
  have hDr:(pathT (p.drop (i+1)++tl) e).right 5=true:=(ZZ hok.ord).2 hok.leaf
  have hkey:=hp _ hmem
  have hem:empB (pathT (p.drop (i+1)++tl) e).es.length (pathT (p.drop (i+1)++tl) e).ks.length=false:=by rw[Jf,qYv]
  have hwE:wrapE (pathT (p.drop (i+1)++tl) e) p[i]=0:=by
   unfold wrapE
   rw[hDr,hkey,hem,qQ3]
   have:¬5<(p.drop (i+1)++tl).length+1+1:=by omega
   simp only[Bool.not_true,Bool.or_self,Bool.false_eq_true,if_false,Bool.not_false,Bool.true_and,decide_eq_true_eq,this]
  have hwT:wrapT (pathT (p.drop (i+1)++tl) e) p[i]=pathT (p.drop i++tl) e:=by
   unfold wrapT
   rw[if_pos hwE,hem,if_neg (by simp),List.drop_eq_getElem_cons hlt,List.cons_append,pathT]
  have hUE:updE (tgetT t (p.take i)) p[i] (pathT (p.drop (i+1)++tl) e) c=if fullAt t p i then 4 else 0:=by
   unfold updE fullAt
   rw[XR hr,QW hr,Xj.2 hok,hkey,hem,hwE,hx]
   simp only[Bool.not_true,Bool.or_self,Bool.false_eq_true,if_false,Bool.not_false,Bool.true_and,Option.getD_some]
   rfl
  rw[List.range_succ,List.any_append]
  simp only[List.any_cons,List.any_nil,Bool.or_false]
  rw[ZF,if_pos rfl]
  cases hf:fullAt t p i
  ·have hUE0:updE (tgetT t (p.take i)) p[i] (pathT (p.drop (i+1)++tl) e) c=0:=by rw[hUE,hf];rfl
   have hX:updX t p i (pathT (p.drop (i+1)++tl) e,c,0)=(pathT (p.drop i++tl) e,c,0):=by
    unfold updX updT updC
    rw[hx]
    simp only[Option.getD_some]
    rw[hUE0,if_pos rfl,if_pos rfl,hwT]
   rw[hX,Bool.or_false]
   exact Yq hr hp ht hl he hc hh i (by omega)
  ·rw[Bool.or_true,if_pos rfl]
   have hX:(updX t p i (pathT (p.drop (i+1)++tl) e,c,0)).2.2=4:=by
    unfold updX
    rw[hx]
    simp only[Option.getD_some]
    rw[hUE,hf,if_pos rfl]
   rw[Y5 (by rw[hX];decide),hX]
theorem Yy {t:Tr}{p:List ByteArray}{c:List Sp}(hr:t.right 5=true)(hp:∀ k∈p,keyB k=true)(hc:Qm c=true):∀ i,i<=p.length->ZF t p i (.mk [] [],c,0)=(.mk [] [],c,0)
 |0,_=>rfl
 |i+1,hi=>by
  have hlt:i<p.length:=by omega
  have hx:=List.getElem?_eq_getElem hlt
  have hkey:=hp _ (List.mem_of_getElem? hx)
  have hok:CaOk (.mk [] []) c:=zZ5 hc
  have hDr:(Tr.mk [] []).right 5=true:=(ZZ hok.ord).2 hok.leaf
  have hem:empB (Tr.mk [] []).es.length (Tr.mk [] []).ks.length=true:=rfl
  have hwE:wrapE (.mk [] []) p[i]=0:=by unfold wrapE;rw[hDr,hkey,hem];rfl
  have hwT:wrapT (.mk [] []) p[i]=.mk [] []:=by unfold wrapT;rw[if_pos hwE,hem,if_pos rfl]
  have hUE:updE (tgetT t (p.take i)) p[i] (.mk [] []) c=0:=by
   unfold updE
   rw[XR hr,QW hr,Xj.2 hok,hkey,hem,hwE];rfl
  have hX:updX t p i (.mk [] [],c,0)=(.mk [] [],c,0):=by
   unfold updX updT updC
   rw[hx]
   simp only[Option.getD_some]
   rw[hUE,if_pos rfl,if_pos rfl,hwT]
  rw[ZF,if_pos rfl,hX]
  exact Yy hr hp hc i (by omega)
theorem XS {l:List Dt}(hr:∀ x∈l,x.right=true)(x:Dt):hasC (ctxOf l) x=decide (x∈l):=by
 rw[Bool.eq_iff_iff,decide_eq_true_eq]
 constructor
 ·intro h;rw[ZP hr (Y3 h)]at h;simpa using h
 ·intro h;rw[ZP hr (hr x h)];simpa using h
theorem Vj {u:Tr}{d:Dt}(hu:u.right 5=true)(hd:d.right=true):∀ x∈d :: u.dots,x.right=true:=fun x hx=>by
 rcases List.mem_cons.1 hx with rfl|hx
 ·exact hd
 ·exact QI hu x hx
theorem XU {u:Tr}{d:Dt}(hu:u.right 5=true)(hd:d.right=true):seenC u d=ctxOf (d :: u.dots):=
 qZ8 (qKf hu hd) (Qr (Vj hu hd)) fun x=>by
  rw[qWf hu hd,XS (Vj hu hd)]
  by_cases h1:x∈u.dots<;>by_cases h2:x=d<;>simp[h1,h2]
theorem qQ4 {t:Tr}{x:Dt}(h:x∈ownD t):x∈t.dots:=by
 unfold ownD at h
 obtain⟨e,he,rfl⟩:=List.mem_map.1 h
 exact (Yb t _).2 ⟨[],e,ZE.2 he,rfl⟩
theorem qXe {k:ByteArray}(h:Q6 k=false):keyB k=true:=by
 unfold Q6 at h
 rw[Bool.or_eq_false_iff]at h
 obtain⟨h1,h2⟩:=h
 have h1:k.size<=30:=by simpa using h1
 have h3:kindB k≠0:=by simpa using h2
 have h4:1<=k.size:=by
  rcases Nat.eq_zero_or_pos k.size with h0|h0
  ·exfalso
   have:k.data.toList=[]:=by
    have h5:k.data=#[]:=Array.eq_empty_of_size_eq_zero h0
    rw[h5]
   exact h3 (by unfold kindB;rw[this])
  ·exact h0
 unfold keyB
 simp;omega
theorem Q2 {p:List ByteArray}(h:pathI p=0):1<=p.length/\p.length<=3/\(∀ k∈p,Q6 k=false)/\p.dropLast.any noMap=false:=by
 unfold pathI at h
 split at h
 ·cases h
 ·rename_i h1
  split at h
  ·cases h
  ·rename_i h2
   have h3:p.any Q6=false:=by
    cases h4:p.any Q6
    ·rfl
    ·exact absurd (.inr (.inr h4)) h1
   exact⟨by omega,by omega,fun k hk=>by rw[List.any_eq_false]at h3;simpa using h3 k hk,by simpa using h2⟩
theorem Z1 {p:List ByteArray}(h:1<=p.length):p[p.length-1]?=some (lastK p):=by
 unfold lastK
 rw[List.getElem?_eq_getElem (by omega)];rfl
structure OpOk (o:Opr):Prop where
 path:pathI o.path=0
 act:actB o.act (kindB (lastK o.path))=true
 txt:opTxt o=true
 num:opNum o=true
theorem op_ok {o:Opr}(h:opI o=0):OpOk o:=by
 unfold opI at h
 split at h
 ·rename_i h1;exact absurd h h1
 ·rename_i h1
  split at h
  ·cases h
  ·rename_i h2
   split at h
   ·rename_i h3
    rw[Bool.and_eq_true]at h3
    exact⟨by simpa using h1,by simpa using h2,h3.1,h3.2⟩
   ·cases h
theorem Ki {o:Opr}(h:OpOk o):o.act=1∨o.act=2∨o.act=3∨o.act=4∨o.act=5∨o.act=6∨o.act=7:=by
 have:=h.act
 unfold actB at this
 split at this
 ·omega
 ·split at this
  ·omega
  ·split at this
   ·omega
   ·split at this
    ·omega
    ·have:=of_decide_eq_true this;omega
theorem Jl {α:Type}{f g:α->Bool}:∀ {l:List α},(∀ x∈l,f x=g x)->l.any f=l.any g
 |[],_=>rfl
 |x :: l,h=>by rw[List.any_cons,List.any_cons,h x (by simp),Jl fun y hy=>h y (by simp[hy])]
theorem qKk (t:Tr)(p q:List ByteArray){j:Nat}(h:j<p.length):fullAt t (p++q) j=fullAt t p j:=by
 unfold fullAt
 rw[List.take_append_of_le_length (by omega),List.getElem?_append_left h]
theorem qWo (t:Tr)(p:List ByteArray)(s:ByteArray):fullP t (p++[s])=((List.range p.length).any (fullAt t p)||(decide (24<=(getK t p).ks.length)&&!hasK (getK t p) s)):=by
 unfold fullP
 rw[List.length_append,List.length_singleton,List.range_succ,List.any_append]
 simp only[List.any_cons,List.any_nil,Bool.or_false]
 congr 1
 ·exact Jl fun j hj=>qKk t p [s] (List.mem_range.1 hj)
 ·unfold fullAt
  rw[List.take_append_of_le_length (Nat.le_refl _),List.take_of_length_le (Nat.le_refl _),List.getElem?_append_right (Nat.le_refl _)]
  simp
theorem qQ5 {o:Opr}{d:Dt}(h:OpOk o)(hd:d.right=true):(entE o d).right=true:=by
 have hdot:(entE o d).dot=d:=rfl
 have h1:=h.num
 have h2:=h.txt
 have hc:=Ki h
 unfold En.right
 rw[hdot,hd]
 unfold entE
 unfold opNum at h1
 unfold opTxt at h2
 have hs:(if o.act=6 then o.s else ByteArray.empty).size<=30:=by
  split
  ·rename_i h6
   rw[if_neg (by omega),if_pos h6]at h2
   simpa using h2
  ·decide
 have hn:-1099511627776<=o.n/\o.n<=1099511627776:=by
  split at h1
  ·simpa using h1
  ·have:=of_decide_eq_true h1;omega
 simp;omega
theorem Jm {t:Tr}{o:Opr}(hr:t.right 5=true):∀ x∈seesD t o,x∈t.dots:=fun x hx=>by
 unfold seesD at hx
 split at hx
 ·exact XQ hr _ hx
 ·split at hx
  ·cases hx
  ·split at hx
   ·exact XQ hr _ (qQ4 hx)
   ·exact XQ hr _ hx
theorem Kj {t:Tr}{o:Opr}{d:Dt}(hr:t.right 5=true)(hd:d.right=true):∀ x∈d :: seesD t o,x.right=true:=fun x hx=>by
 rcases List.mem_cons.1 hx with rfl|hx
 ·exact hd
 ·exact QI hr x (Jm hr x hx)
theorem XV {o:Opr}(h:OpOk o):(∀ k∈o.path,keyB k=true)/\(∀ k∈endP o,keyB k=true)/\(endP o).length<=4/\o.path.length+(if o.act=3 then [o.s] else []).length<=4:=by
 obtain⟨h1,h2,h3,_⟩:=Q2 h.path
 have hk:∀ k∈o.path,keyB k=true:=fun k hk=>qXe (h3 k hk)
 have h4:=h.txt
 unfold opTxt at h4
 refine⟨hk,fun k hm=>?_,?_,?_⟩
 ·unfold endP at hm
  rcases List.mem_append.1 hm with hm|hm
  ·exact hk k hm
  ·split at hm
   ·rename_i h5
    rw[if_pos (.inl h5)]at h4
    simp at hm;subst hm;exact h4
   ·cases hm
 ·unfold endP;rw[List.length_append];split<;>simp<;>omega
 ·split<;>simp<;>omega
theorem qWp {u:Tr}{o:Opr}{d:Dt}(ha:o.act=1):leafX u o d=(enT u d,disC u d,chkI u d):=by simp[leafX,ha]
theorem qWq {u:Tr}{o:Opr}{d:Dt}(ha:o.act=2):leafX u o d=(.mk [] [],disC u d,chkI u d):=by simp[leafX,ha]
theorem qWr {u:Tr}{o:Opr}{d:Dt}(ha:o.act=3):leafX u o d=(addT u o.s d,addC u o.s d,addE u o.s d):=by simp[leafX,ha]
theorem qWs {u:Tr}{o:Opr}{d:Dt}(ha:o.act=4):leafX u o d=(.mk [] [],delC u o.s d,sckI u o.s d):=by simp[leafX,ha]
theorem qWt {u:Tr}{o:Opr}{d:Dt}(ha:o.act=5):leafX u o d=(incT u o.n d,incC u o.n d,incE u o.n d):=by simp[leafX,ha]
theorem qWu {u:Tr}{o:Opr}{d:Dt}(ha:o.act=6):leafX u o d=(wrtT u o.s d,wrtC u o.s d,wrtE u o.s d):=by simp[leafX,ha]
theorem zX1 {u:Tr}{o:Opr}{d:Dt}(ha:o.act=7):leafX u o d=(.mk [] [],disC u d,chkI u d):=by simp[leafX,ha]
theorem Y6 {t:Tr}{o:Opr}(ha:o.act=1∨o.act=2∨o.act=7):seesD t o=(getK t o.path).dots:=by
 unfold seesD;rw[if_neg (by omega),if_neg (by omega),if_neg (by omega)]
theorem VN {t:Tr}{o:Opr}(ha:o.act=3∨o.act=4):seesD t o=(getK t (o.path++[o.s])).dots:=by unfold seesD;rw[if_pos ha]
theorem qYy {t:Tr}{o:Opr}(ha:o.act=5):seesD t o=[]:=by unfold seesD;rw[if_neg (by omega),if_pos ha]
theorem qYz {t:Tr}{o:Opr}(ha:o.act=6):seesD t o=ownD (getK t o.path):=by unfold seesD;rw[if_neg (by omega),if_neg (by omega),if_pos ha]
theorem zQ3 {t:Tr}{o:Opr}{d:Dt}(h:OpOk o)(hc:chkT t d=true) :
  if fullB t o then (ZF t o.path o.path.length (leafX (getK t o.path) o d)).2.2=4 else ZF t o.path o.path.length (leafX (getK t o.path) o d)=(if Qv o.act then pathT (endP o) (entE o d) else .mk [] [],ctxOf (d :: seesD t o),0):=by
 obtain⟨g1,g2,g3⟩:=ZA hc
 have hcu:=zX0 hc o.path
 have hur:=QW g1 o.path
 obtain⟨k1,k2,k3,k4⟩:=XV h
 have he:=qQ5 (d:=d) h g2
 have hdot:(entE o d).dot=d:=rfl
 have hap:=Qr (Kj (o:=o) g1 g2)
 have hh:hasC (ctxOf (d :: seesD t o)) d=true:=by rw[XS (Kj g1 g2)];simp
 have hlen:(List.range o.path.length).any (fullAt t (o.path++[]))=(List.range o.path.length).any (fullAt t o.path):=by rw[List.append_nil]
 have hdrop:o.path.drop o.path.length=[]:=List.drop_length
 have hn:=h.num
 have htx:=h.txt
 unfold opNum at hn
 unfold opTxt at htx
 rcases Ki h with ha|ha|ha|ha|ha|ha|ha
 ·-- enable
  have hE:entE o d=⟨d.dc,d.n,ByteArray.empty,0⟩:=by unfold entE;rw[if_neg (by omega)];rw[if_neg (by omega)]at hn;rw[of_decide_eq_true hn]
  have hX:leafX (getK t o.path) o d=(pathT (o.path.drop o.path.length++[]) (entE o d),ctxOf (d :: seesD t o),0):=by
   rw[qWp ha,Y6 (.inl ha),hE,hdrop]
   unfold enT disC chkI
   rw[hcu,if_pos rfl,if_pos rfl,if_pos rfl,XU hur g2];rfl
  have hf:fullB t o=(List.range o.path.length).any (fullAt t o.path):=by unfold fullB Qv endP fullP;rw[if_neg (by omega),List.append_nil];simp[ha]
  have hend:endP o=o.path++[]:=by unfold endP;rw[if_neg (by omega)]
  rw[hX,hf,show Qv o.act=true by unfold Qv;simp[ha],if_pos rfl,hend]
  exact Yq g1 k1 (by simp) (by simp;have:=(Q2 h.path).2.1;omega) he hap (by rw[hdot];exact hh) _ (Nat.le_refl _)
 ·-- disable
  have hX:leafX (getK t o.path) o d=(.mk [] [],ctxOf (d :: seesD t o),0):=by
   rw[qWq ha,Y6 (.inr (.inl ha))]
   unfold disC chkI
   rw[hcu,if_pos rfl,if_pos rfl,XU hur g2]
  have hf:fullB t o=false:=by unfold fullB Qv;simp[ha]
  rw[hX,hf,show Qv o.act=false by unfold Qv;simp[ha],Yy g1 k1 hap _ (Nat.le_refl _)];simp
 ·-- add
  rw[if_pos (.inl ha)]at htx
  have hE:entE o d=⟨d.dc,d.n,ByteArray.empty,0⟩:=by unfold entE;rw[if_neg (by omega)];rw[if_neg (by omega)]at hn;rw[of_decide_eq_true hn]
  have hsk:sckB (getK t o.path) o.s d=true:=by unfold sckB;rw[hcu,htx];rfl
  have hend:endP o=o.path++[o.s]:=by unfold endP;rw[if_pos ha]
  have hf:fullB t o=((List.range o.path.length).any (fullAt t o.path)||(decide (24<=(getK t o.path).ks.length)&&!hasK (getK t o.path) o.s)):=by
   unfold fullB Qv;rw[hend,qWo];simp[ha]
  have hgo:leafX (getK t o.path) o d=(addT (getK t o.path) o.s d,addC (getK t o.path) o.s d,addE (getK t o.path) o.s d):=qWr ha
  have haE:addE (getK t o.path) o.s d=if (decide (24<=(getK t o.path).ks.length)&&!hasK (getK t o.path) o.s)=true then 4 else 0:=by unfold addE;rw[hsk];rfl
  rw[hgo,hf]
  cases hfl:(decide (24<=(getK t o.path).ks.length)&&!hasK (getK t o.path) o.s)
  ·rw[hfl,if_neg (by simp)]at haE
   have hX:(addT (getK t o.path) o.s d,addC (getK t o.path) o.s d,addE (getK t o.path) o.s d)=(pathT (o.path.drop o.path.length++[o.s]) (entE o d),ctxOf (d :: seesD t o),0):=by
    have hks:kidT (getK t o.path) o.s=getK t (o.path++[o.s]):=by rw[VM];rfl
    rw[VN (.inl ha),hE,hdrop]
    unfold addT addC
    rw[haE,if_pos rfl,if_pos rfl,hks,XU (QW g1 _) g2];rfl
   rw[hX,Bool.or_false,show Qv o.act=true by unfold Qv;simp[ha],if_pos rfl,hend]
   exact Yq g1 k1 (fun k hk=>by simp at hk;subst hk;exact htx) (by simp;have:=(Q2 h.path).2.1;omega) he hap (by rw[hdot];exact hh) _ (Nat.le_refl _)
  ·rw[hfl,if_pos rfl]at haE
   rw[Bool.or_true,if_pos rfl,Y5 (by rw[haE];exact (by decide:(4:Int)≠0)),haE]
 ·-- del
  rw[if_pos (.inr ha)]at htx
  have hsk:sckB (getK t o.path) o.s d=true:=by unfold sckB;rw[hcu,htx];rfl
  have hks:kidT (getK t o.path) o.s=getK t (o.path++[o.s]):=by rw[VM];rfl
  have hX:leafX (getK t o.path) o d=(.mk [] [],ctxOf (d :: seesD t o),0):=by
   rw[qWs ha,VN (.inr ha)]
   unfold delC sckI
   rw[hsk,if_pos rfl,if_pos rfl,hks,XU (QW g1 _) g2]
  have hf:fullB t o=false:=by unfold fullB Qv;simp[ha]
  rw[hX,hf,show Qv o.act=false by unfold Qv;simp[ha],Yy g1 k1 hap _ (Nat.le_refl _)];simp
 ·-- inc
  rw[if_pos ha]at hn
  have hn:=of_decide_eq_true hn
  have hE:entE o d=⟨d.dc,d.n,ByteArray.empty,o.n⟩:=by unfold entE;rw[if_neg (by omega)]
  have hend:endP o=o.path++[]:=by unfold endP;rw[if_neg (by omega)]
  have hf:fullB t o=((List.range o.path.length).any (fullAt t o.path)||decide (24<=(getK t o.path).es.length)):=by
   unfold fullB Qv fullP;rw[hend,List.append_nil];simp[ha]
  have hgo:leafX (getK t o.path) o d=(incT (getK t o.path) o.n d,incC (getK t o.path) o.n d,incE (getK t o.path) o.n d):=qWt ha
  have haE:incE (getK t o.path) o.n d=if 24<=(getK t o.path).es.length then 4 else 0:=by
   unfold incE
   rw[hcu,if_neg (by simp;omega)]
  rw[hgo,hf]
  cases hfl:decide (24<=(getK t o.path).es.length)
  ·rw[if_neg (of_decide_eq_false hfl)]at haE
   have hX:(incT (getK t o.path) o.n d,incC (getK t o.path) o.n d,incE (getK t o.path) o.n d)=(pathT (o.path.drop o.path.length++[]) (entE o d),ctxOf (d :: seesD t o),0):=by
    rw[qYy ha,hE,hdrop]
    unfold incT incC
    rw[haE,if_pos rfl,if_pos rfl];rfl
   rw[hX,Bool.or_false,show Qv o.act=true by unfold Qv;simp[ha],if_pos rfl,hend]
   exact Yq g1 k1 (by simp) (by simp;have:=(Q2 h.path).2.1;omega) he hap (by rw[hdot];exact hh) _ (Nat.le_refl _)
  ·rw[if_pos (of_decide_eq_true hfl)]at haE
   rw[Bool.or_true,if_pos rfl,Y5 (by rw[haE];exact (by decide:(4:Int)≠0)),haE]
 ·-- write
  rw[if_neg (by omega),if_pos ha]at htx
  rw[if_neg (by omega)]at hn
  have hwb:wrtB (getK t o.path) o.s d=true:=by unfold wrtB;rw[hcu,htx];rfl
  have hE:entE o d=⟨d.dc,d.n,o.s,0⟩:=by unfold entE;rw[if_pos ha,of_decide_eq_true hn]
  have hX:leafX (getK t o.path) o d=(pathT (o.path.drop o.path.length++[]) (entE o d),ctxOf (d :: seesD t o),0):=by
   rw[qWu ha,qYz ha,hE,hdrop]
   unfold wrtT wrtC wrtE
   rw[hwb,if_pos rfl,if_pos rfl,if_pos rfl];rfl
  have hf:fullB t o=(List.range o.path.length).any (fullAt t o.path):=by unfold fullB Qv endP fullP;rw[if_neg (by omega),List.append_nil];simp[ha]
  have hend:endP o=o.path++[]:=by unfold endP;rw[if_neg (by omega)]
  rw[hX,hf,show Qv o.act=true by unfold Qv;simp[ha],if_pos rfl,hend]
  exact Yq g1 k1 (by simp) (by simp;have:=(Q2 h.path).2.1;omega) he hap (by rw[hdot];exact hh) _ (Nat.le_refl _)
 ·-- reset
  have hX:leafX (getK t o.path) o d=(.mk [] [],ctxOf (d :: seesD t o),0):=by
   rw[zX1 ha,Y6 (.inr (.inr ha))]
   unfold disC chkI
   rw[hcu,if_pos rfl,if_pos rfl,XU hur g2]
  have hf:fullB t o=false:=by unfold fullB Qv;simp[ha]
  rw[hX,hf,show Qv o.act=false by unfold Qv;simp[ha],Yy g1 k1 hap _ (Nat.le_refl _)];simp
def viewK (k:Int)(x:Tr):Vw:=⟨k,if k=1 then onB x else false,if k=3 then valT x else 0,if k=2 then Q0 x else if k=4 then Zj x else if k=5 then ZD x else []⟩
def readI (t:Tr)(p:List ByteArray):Int:=if !t.right 5 then 1 else pathI p
def vw0:Vw:=⟨0,false,0,[]⟩
def readV (t:Tr)(p:List ByteArray):Vw:=if readI t p=0 then viewK (kindB (lastK p)) (getK t p) else vw0
theorem ZL:∀ (p:List ByteArray){t:Tr},t.Ord->∀ {qs:List ByteArray}{e:En},((qs,e):Lf)∈(getK t p).lvs []↔((p++qs,e):Lf)∈t.lvs []
 |[],_,_,_,_=>Iff.rfl
 |k :: p,t,h,qs,e=>by
  show ((qs,e):Lf)∈(getK (kidT t k) p).lvs []↔_
  rw[ZL p (ZJ h k),Xy h];rfl
theorem JF {t:Tr}(h:t.Ord):∀ p:List ByteArray,(getK t p).Ord:=fun p=>by
 unfold getK
 induction p generalizing t with
 |nil=>exact h
 |cons k p ih=>exact ih (ZJ h k)
theorem YN {t:Tr}(h:t.Ord){p:List ByteArray}{x:Dt}:x∈(getK t p).dots↔∃ q e,((p++q,e):Lf)∈t.lvs []/\e.dot=x:=by
 rw[Yb]
 exact⟨fun ⟨q,e,h1,h2⟩=>⟨q,e,(ZL p h).1 h1,h2⟩,fun ⟨q,e,h1,h2⟩=>⟨q,e,(ZL p h).2 h1,h2⟩⟩
theorem qWw {t:Tr}(h:t.Ord){p:List ByteArray}{x:Dt}:x∈ownD (getK t p)↔∃ e,((p,e):Lf)∈t.lvs []/\e.dot=x:=by
 unfold ownD
 rw[List.mem_map]
 constructor
 ·rintro⟨e,h1,h2⟩
  have:=(ZL p h).1 (ZE.2 h1)
  rw[List.append_nil]at this
  exact⟨e,this,h2⟩
 ·rintro⟨e,h1,h2⟩
  exact⟨e,ZE.1 ((ZL p h).2 (by rw[List.append_nil];exact h1)),h2⟩
theorem qWx {t:Tr}(h:t.Ord){o:Opr}{x:Dt}(hx:x∈seesD t o):∃ q e,((o.path++q,e):Lf)∈t.lvs []/\e.dot=x:=by
 unfold seesD at hx
 split at hx
 ·obtain⟨q,e,h1,h2⟩:=(YN h).1 hx
  exact⟨o.s :: q,e,by rw[List.append_assoc]at h1;exact h1,h2⟩
 ·split at hx
  ·cases hx
  ·split at hx
   ·obtain⟨e,h1,h2⟩:=(qWw h).1 hx
    exact⟨[],e,by rw[List.append_nil];exact h1,h2⟩
   ·exact (YN h).1 hx
theorem qY0 (t:Tr)(o:Opr):(seesD t o).length<=t.sz:=by
 have h1:=fun p=>Nat.le_trans (Zc (getK t p)) (Q1 t p)
 unfold seesD
 split
 ·exact h1 _
 ·split
  ·exact Nat.zero_le _
  ·split
   ·have h2:=es_sz (getK t o.path)
    have h3:=Q1 t o.path
    unfold ownD
    rw[List.length_map];omega
   ·exact h1 _
theorem Kk {t:Tr}{o:Opr}{d:Dt}(h:appI t o d=0):t.right 5=true/\OpOk o/\chkT t d=true/\fullB t o=false:=by
 unfold appI at h
 split at h
 ·cases h
 ·rename_i h1
  split at h
  ·rename_i h2;exact absurd h h2
  ·rename_i h2
   split at h
   ·cases h
   ·rename_i h3
    split at h
    ·cases h
    ·rename_i h4
     exact⟨by simpa using h1,op_ok (by simpa using h2),by simpa using h3,by simpa using h4⟩
theorem QM {t:Tr}{o:Opr}{d:Dt}(h:appI t o d=0):CaOk (appT t o d) (appC t o d)/\(appT t o d).sz<=5:=by
 obtain⟨h1,h2,h3,_⟩:=Kk h
 obtain⟨g1,g2,g3⟩:=ZA h3
 obtain⟨_,k2,k3,_⟩:=XV h2
 have hap:=Qr (Kj (o:=o) g1 g2)
 have hC:appC t o d=ctxOf (d :: seesD t o):=by unfold appC;rw[if_pos h]
 rw[hC]
 unfold appT
 cases he:Qv o.act
 ·rw[if_neg (by simp)]
  exact⟨zZ5 hap,by simp[Tr.sz,Tr.szL]⟩
 ·rw[if_pos ⟨h,rfl⟩]
  refine⟨qYx k2 k3 (qQ5 h2 g2) hap ?_,by rw[qYw];omega⟩
  show hasC (ctxOf (d :: seesD t o)) d=true
  rw[XS (Kj g1 g2)];simp
theorem Kl {t:Tr}{o:Opr}{d:Dt}(h:appI t o d=0)(x:Dt):hasC (appC t o d) x=decide (x=d∨x∈seesD t o):=by
 obtain⟨_,h2,h3,_⟩:=Kk h
 obtain⟨g1,g2,g3⟩:=ZA h3
 unfold appC
 rw[if_pos h,XS (Kj g1 g2)]
 simp[List.mem_cons]
theorem zZ9 {t:Tr}{o:Opr}{d:Dt}(h:appI t o d=0)(p:List ByteArray)(x:Dt):stE (appT t o d) p x=if Qv o.act=true/\p=endP o/\x=d then some (entE o d) else none:=by
 obtain⟨_,h2,h3,_⟩:=Kk h
 obtain⟨_,k2,_,_⟩:=XV h2
 unfold appT
 cases he:Qv o.act
 ·rw[if_neg (by simp),if_neg (by simp),zXx]
 ·rw[if_pos ⟨h,rfl⟩,zQ2 k2]
  have hd:(entE o d).dot=d:=rfl
  rw[hd]
  simp
theorem zX2 (k:ByteArray):0<=kindB k/\kindB k<=5:=by
 unfold kindB
 split
 ·omega
 ·repeat' split
  all_goals omega
theorem qWy {p:List ByteArray}(h:pathI p=0):1<=kindB (lastK p)/\kindB (lastK p)<=5:=by
 obtain⟨h1,_,h3,_⟩:=Q2 h
 have h4:=h3 _ (List.mem_of_getElem? (Z1 h1))
 unfold Q6 at h4
 rw[Bool.or_eq_false_iff]at h4
 have h5:=of_decide_eq_false h4.2
 have h6:=zX2 (lastK p)
 omega
def begB (p w:List ByteArray):Bool:=decide (p.take w.length=w)
def undoB (x e:Opr):Bool:=begB e.path x.path&&(decide (x.act=7)||(decide (e.path.length=x.path.length)&&(if x.act=1∨x.act=2 then decide (e.act=1) else if x.act=3∨x.act=4 then decide (e.act=3)&&decide (e.s=x.s) else if x.act=6 then decide (e.act=6) else false)))
theorem VO {p w:List ByteArray}:begB p w=true↔∃ q,p=w++q:=by
 unfold begB
 rw[decide_eq_true_eq]
 constructor
 ·intro h
  have h1:=List.take_append_drop w.length p
  rw[h]at h1
  exact⟨_,h1.symm⟩
 ·rintro⟨q,rfl⟩;simp
theorem qY1 {p:List ByteArray}(h:pathI p=0){j:Nat}{k:ByteArray}(hj:p[j]?=some k)(hl:j+1<p.length):kindB k=5:=by
 have h1:=(Q2 h).2.2.2
 rw[List.any_eq_false]at h1
 have h2:p.dropLast[j]?=some k:=by rw[List.dropLast_eq_take,List.getElem?_take,if_pos (by omega)];exact hj
 have h3:=h1 k (List.mem_of_getElem? h2)
 unfold noMap at h3
 simpa using h3
theorem XW {o:Opr}(h:OpOk o):(o.act=1∨o.act=2->kindB (lastK o.path)=1)/\(o.act=3∨o.act=4->kindB (lastK o.path)=2)/\(o.act=5->kindB (lastK o.path)=3)/\(o.act=6->kindB (lastK o.path)=4):=by
 have h1:=h.act
 unfold actB at h1
 refine⟨fun ha=>?_,fun ha=>?_,fun ha=>?_,fun ha=>?_⟩
 ·rw[if_pos ha]at h1;exact of_decide_eq_true h1
 ·rw[if_neg (by omega),if_pos ha]at h1;exact of_decide_eq_true h1
 ·rw[if_neg (by omega),if_neg (by omega),if_pos ha]at h1;exact of_decide_eq_true h1
 ·rw[if_neg (by omega),if_neg (by omega),if_neg (by omega),if_pos ha]at h1;exact of_decide_eq_true h1
theorem qY2 {o:Opr}(h:OpOk o)(he:Qv o.act=true):(kindB (lastK o.path)=1->o.act=1)/\(kindB (lastK o.path)=2->o.act=3)/\(kindB (lastK o.path)=3->o.act=5)/\(kindB (lastK o.path)=4->o.act=6)/\kindB (lastK o.path)≠5:=by
 obtain⟨k1,k2,k3,k4⟩:=XW h
 have he:=of_decide_eq_true (show decide (o.act=1∨o.act=3∨o.act=5∨o.act=6)=true from he)
 rcases he with ha|ha|ha|ha
 ·have:=k1 (.inl ha);exact⟨fun _=>ha,fun h=>by omega,fun h=>by omega,fun h=>by omega,by omega⟩
 ·have:=k2 (.inl ha);exact⟨fun h=>by omega,fun _=>ha,fun h=>by omega,fun h=>by omega,by omega⟩
 ·have:=k3 ha;exact⟨fun h=>by omega,fun h=>by omega,fun _=>ha,fun h=>by omega,by omega⟩
 ·have:=k4 ha;exact⟨fun h=>by omega,fun h=>by omega,fun h=>by omega,fun _=>ha,by omega⟩
theorem VP {w:List ByteArray}{e:Opr}(hw:pathI w=0)(he:OpOk e){q:List ByteArray}(h:endP e=w++q):∃ r,e.path=w++r:=by
 have hp:=(Q2 he.path).1
 by_cases hl:w.length<=e.path.length
 ·refine⟨e.path.drop w.length,?_⟩
  have h1:(endP e).take w.length=w:=by rw[h];simp
  unfold endP at h1
  rw[List.take_append_of_le_length hl]at h1
  have h2:=List.take_append_drop w.length e.path
  rw[h1]at h2
  exact h2.symm
 ·exfalso
  unfold endP at h
  split at h
  ·rename_i ha
   have hlen:=congrArg List.length h
   simp only[List.length_append,List.length_singleton]at hlen
   have h3:w[e.path.length-1]?=some (lastK e.path):=by
    have h4:(w++q)[e.path.length-1]?=some (lastK e.path):=by rw[←h,List.getElem?_append_left (by omega)];exact Z1 hp
    rwa [List.getElem?_append_left (by omega)]at h4
   have h5:=qY1 hw h3 (by omega)
   have h6:=(XW he).2.1 (.inl ha)
   omega
  ·have hlen:=congrArg List.length h
   simp only[List.length_append,List.append_nil]at hlen
   omega
theorem qWz {w:List ByteArray}{e:Opr}{r:List ByteArray}(h:e.path=w++r):∃ q,endP e=w++q:=⟨r++(if e.act=3 then [e.s] else []),by unfold endP;rw[h,List.append_assoc]⟩
theorem VQ {w p:List ByteArray}(hw:1<=w.length)(hp:pathI p=0)(hk:kindB (lastK w)≠5){r:List ByteArray}(h:p=w++r):p=w:=by
 cases r with
 |nil=>rw[h,List.append_nil]
 |cons a r=>
  exfalso
  have h1:p[w.length-1]?=some (lastK w):=by rw[h,List.getElem?_append_left (by omega)];exact Z1 hw
  exact hk (qY1 hp h1 (by rw[h];simp;omega))
theorem zY8 {o e:Opr}(ho:OpOk o)(he:OpOk e)(ha:o.act=7):(∃ q,endP e=o.path++q)↔undoB o e=true:=by
 have hu:undoB o e=begB e.path o.path:=by unfold undoB;simp[ha]
 rw[hu,VO]
 exact⟨fun ⟨q,h⟩=>VP ho.path he h,fun ⟨r,h⟩=>qWz h⟩
theorem qW0 {o e:Opr}(ho:OpOk o)(he:OpOk e)(hent:Qv e.act=true)(ha:o.act=1∨o.act=2):(∃ q,endP e=o.path++q)↔undoB o e=true:=by
 have hu:undoB o e=(begB e.path o.path&&(decide (e.path.length=o.path.length)&&decide (e.act=1))):=by unfold undoB;rw[if_pos ha,decide_eq_false (show ¬o.act=7 by omega),Bool.false_or]
 rw[hu,Bool.and_eq_true,Bool.and_eq_true,VO,decide_eq_true_eq,decide_eq_true_eq]
 have hk:=(XW ho).1 ha
 constructor
 ·rintro⟨q,h⟩
  obtain⟨r,h1⟩:=VP ho.path he h
  have h2:=VQ (Q2 ho.path).1 he.path (by omega) h1
  exact⟨⟨r,h1⟩,by rw[h2],(qY2 he hent).1 (by rw[h2];exact hk)⟩
 ·rintro⟨⟨r,h⟩,_⟩;exact qWz h
theorem qW1 {o e:Opr}(ho:OpOk o)(he:OpOk e)(ha:o.act=3∨o.act=4):(∃ q,endP e=o.path++[o.s]++q)↔undoB o e=true:=by
 have hu:undoB o e=(begB e.path o.path&&(decide (e.path.length=o.path.length)&&(decide (e.act=3)&&decide (e.s=o.s)))):=by unfold undoB;rw[if_neg (by omega),if_pos ha,decide_eq_false (show ¬o.act=7 by omega),Bool.false_or]
 rw[hu,Bool.and_eq_true,Bool.and_eq_true,Bool.and_eq_true,VO,decide_eq_true_eq,decide_eq_true_eq,decide_eq_true_eq]
 have hk:=(XW ho).2.1 ha
 constructor
 ·rintro⟨q,h⟩
  rw[List.append_assoc]at h
  obtain⟨r,h1⟩:=VP ho.path he h
  have h2:=VQ (Q2 ho.path).1 he.path (by omega) h1
  refine⟨⟨r,h1⟩,by rw[h2],?_⟩
  unfold endP at h
  rw[h2]at h
  have h3:=List.append_cancel_left h
  split at h3
  ·rename_i h4;simp at h3;exact⟨h4,h3.1⟩
  ·simp at h3
 ·rintro⟨⟨r,h⟩,hl,h3,hs⟩
  have h4:r=[]:=by rw[h]at hl;simp at hl;exact hl
  rw[h4,List.append_nil]at h
  exact⟨[],by unfold endP;rw[h,if_pos h3,hs];simp⟩
theorem zY9 {o e:Opr}(ha:o.act=5):undoB o e=false:=by
 unfold undoB;rw[if_neg (by omega),if_neg (by omega),if_neg (by omega),decide_eq_false (show ¬o.act=7 by omega)];simp
theorem zJa {o e:Opr}(ho:OpOk o)(he:OpOk e)(hent:Qv e.act=true)(ha:o.act=6):endP e=o.path↔undoB o e=true:=by
 have hu:undoB o e=(begB e.path o.path&&(decide (e.path.length=o.path.length)&&decide (e.act=6))):=by unfold undoB;rw[if_neg (by omega),if_neg (by omega),if_pos ha,decide_eq_false (show ¬o.act=7 by omega),Bool.false_or]
 rw[hu,Bool.and_eq_true,Bool.and_eq_true,VO,decide_eq_true_eq,decide_eq_true_eq]
 have hk:=(XW ho).2.2.2 ha
 constructor
 ·intro h
  obtain⟨r,h1⟩:=VP ho.path he (q:=[]) (by rw[List.append_nil];exact h)
  have h2:=VQ (Q2 ho.path).1 he.path (by omega) h1
  exact⟨⟨r,h1⟩,by rw[h2],(qY2 he hent).2.2.2.1 (by rw[h2];exact hk)⟩
 ·rintro⟨⟨r,h⟩,hl,h6⟩
  have h4:r=[]:=by rw[h]at hl;simp at hl;exact hl
  rw[h4,List.append_nil]at h
  unfold endP;rw[if_neg (by omega),h,List.append_nil]
theorem qW2 {t:Tr}(ht:t.Ord){o e:Opr}(ho:OpOk o)(he:OpOk e)(hent:Qv e.act=true){x:Dt}{y:En}(hx:((endP e,y):Lf)∈t.lvs [])(hd:y.dot=x)(hone:∀ p z,((p,z):Lf)∈t.lvs []->z.dot=x->p=endP e) :
  x∈seesD t o↔undoB o e=true:=by
 have hpre:∀ w:List ByteArray,x∈(getK t w).dots↔∃ q,endP e=w++q:=fun w=>by
  rw[YN ht]
  exact⟨fun ⟨q,z,h1,h2⟩=>⟨q,(hone _ _ h1 h2).symm⟩,fun ⟨q,h⟩=>⟨q,y,h▸hx,hd⟩⟩
 rcases Ki ho with ha|ha|ha|ha|ha|ha|ha
 ·rw[Y6 (.inl ha),hpre,qW0 ho he hent (.inl ha)]
 ·rw[Y6 (.inr (.inl ha)),hpre,qW0 ho he hent (.inr ha)]
 ·rw[VN (.inl ha),hpre,qW1 ho he (.inl ha)]
 ·rw[VN (.inr ha),hpre,qW1 ho he (.inr ha)]
 ·rw[qYy ha,zY9 ha];simp
 ·rw[qYz ha,qWw ht,←zJa ho he hent ha]
  exact⟨fun ⟨z,h1,h2⟩=>(hone _ _ h1 h2).symm,fun h=>⟨y,h▸hx,hd⟩⟩
 ·rw[Y6 (.inr (.inr ha)),hpre,zY8 ho he ha]
structure Ev where
 d:Dt
 o:Opr
 seen:List Sp
 deriving DecidableEq,Inhabited
def visL (l:List Ev)(c:List Sp):List Ev:=l.filter fun x=>hasC c x.d
def undB (d:Dt)(o:Opr)(x:Ev):Bool:=!(hasC x.seen d&&undoB x.o o)
def Zg (l:List Ev)(e:Ev):Bool:=Qv e.o.act&&l.all (undB e.d e.o)
structure Lw (l:List Ev):Prop where
 op:∀ e∈l,OpOk e.o
 nd:(l.map (·.d)).Nodup
 rt:∀ e∈l,e.d.right=true
 seen:∀ e∈l,∀ d,hasC e.seen d=true->∃ x∈l,x.d=d
structure Kw (l:List Ev)(x:Kn):Prop where
 ok:KOk x
 inn:∀ d,hasC x.2 d=true->∃ e∈l,e.d=d
 clo:∀ e∈l,hasC x.2 e.d=true->∀ d,hasC e.seen d=true->hasC x.2 d=true
 st:∀ e∈l,∀ p,stE x.1 p e.d=if hasC x.2 e.d=true/\Zg (visL l x.2) e=true/\p=endP e.o then some (entE e.o e.d) else none
theorem Lw.nil:Lw []:=⟨fun _ h=>(by cases h),.nil,fun _ h=>(by cases h),fun _ h=>(by cases h)⟩
theorem Kw.nil:Kw [] kn0:=⟨qQ1,fun d h=>(by rw[show kn0.2=[] from rfl,XN]at h;cases h),fun _ h=>(by cases h),fun _ h=>(by cases h)⟩
theorem Lw.one {l:List Ev}(h:Lw l){e f:Ev}(he:e∈l)(hf:f∈l)(hd:e.d=f.d):e=f:=zZ8 h.nd e he f hf hd
theorem Km {l:List Ev}{e:Ev}(h:Zg l e=true):Qv e.o.act=true:=by unfold Zg at h;rw[Bool.and_eq_true]at h;exact h.1
theorem Kw.none' {l:List Ev}{x:Kn}(h:Kw l x){d:Dt}(hd:hasC x.2 d=false)(p:List ByteArray):stE x.1 p d=none:=by
 cases hs:stE x.1 p d with
 |none=>rfl
 |some y=>have h1:hasC x.2 d=true:=(Q7 h.ok hs).1;rw[h1]at hd;cases hd
theorem Kw.some' {l:List Ev}{x:Kn}(h:Kw l x){p:List ByteArray}{d:Dt}{y:En}(hs:stE x.1 p d=some y):∃ e∈l,e.d=d/\hasC x.2 e.d=true/\Zg (visL l x.2) e=true/\p=endP e.o/\y=entE e.o e.d:=by
 have hh:=(Q7 h.ok hs).1
 obtain⟨e,he,rfl⟩:=h.inn d hh
 rw[h.st e he]at hs
 split at hs
 ·rename_i hc
  cases hs
  exact⟨e,he,rfl,hc.1,hc.2.1,hc.2.2,rfl⟩
 ·cases hs
theorem Z2 {α:Type}(p q:α->Bool):∀ l:List α,(l.filter p).all q=l.all fun x=>!p x||q x
 |[]=>rfl
 |x :: l=>by
  rw[List.filter_cons,List.all_cons]
  cases h:p x
  ·simp[Z2 p q l]
  ·simp[Z2 p q l]
theorem qY3 {α:Type}(p q:α->Bool):∀ l:List α,(l.all fun x=>p x&&q x)=(l.all p&&l.all q)
 |[]=>rfl
 |x :: l=>by
  rw[List.all_cons,List.all_cons,List.all_cons,qY3 p q l]
  cases p x<;>cases q x<;>cases l.all p<;>cases l.all q<;>rfl
theorem Vk {α:Type}{p q:α->Bool}:∀ {l:List α},(∀ x∈l,p x=q x)->l.all p=l.all q
 |[],_=>rfl
 |x :: l,h=>by rw[List.all_cons,List.all_cons,h x (by simp),Vk fun y hy=>h y (by simp[hy])]
theorem zQ4 {l:List Ev}{a b c:List Sp}{e:Ev}(hc:∀ x∈l,hasC c x.d=(hasC a x.d||hasC b x.d)):Zg (visL l c) e=(Zg (visL l a) e&&Zg (visL l b) e):=by
 unfold Zg visL
 rw[Z2,Z2,Z2]
 have h1:(l.all fun x=>!hasC c x.d||undB e.d e.o x)=((l.all fun x=>!hasC a x.d||undB e.d e.o x)&&(l.all fun x=>!hasC b x.d||undB e.d e.o x)):=by
  rw[←qY3]
  exact Vk fun x hx=>by rw[hc x hx];cases hasC a x.d<;>cases hasC b x.d<;>cases undB e.d e.o x<;>rfl
 rw[h1]
 cases Qv e.o.act<;>cases (l.all fun x=>!hasC a x.d||undB e.d e.o x)<;>rfl
theorem Kw.stand_no {l:List Ev}{x:Kn}(h:Kw l x){e:Ev}(hd:hasC x.2 e.d=false):Zg (visL l x.2) e=Qv e.o.act:=by
 unfold Zg
 have h1:(visL l x.2).all (undB e.d e.o)=true:=by
  rw[List.all_eq_true]
  intro y hy
  obtain⟨hy1,hy2⟩:=List.mem_filter.1 hy
  unfold undB
  cases hs:hasC y.seen e.d
  ·rfl
  ·have:=h.clo y hy1 hy2 _ hs
   rw[this]at hd;cases hd
 rw[h1,Bool.and_true]
theorem Kw.join {l:List Ev}{a b:Kn}(ha:Kw l a)(hb:Kw l b):Kw l (jn a b):=by
 have hhas:∀ d,hasC (jn a b).2 d=(hasC a.2 d||hasC b.2 d):=Kf ha.ok hb.ok
 refine⟨qQ2 ha.ok hb.ok,fun d hd=>?_,fun e he hd d hs=>?_,fun e he p=>?_⟩
 ·rw[hhas,Bool.or_eq_true]at hd
  exact hd.elim (ha.inn d) (hb.inn d)
 ·rw[hhas,Bool.or_eq_true]at hd ⊢
  exact hd.elim (fun h=>.inl (ha.clo e he h d hs)) (fun h=>.inr (hb.clo e he h d hs))
 ·have hst:=zQ4 (l:=l) (e:=e) (c:=(jn a b).2) fun x _=>hhas x.d
  rw[jn_st ha.ok hb.ok,hst,hhas,ha.st e he,hb.st e he]
  cases h1:hasC a.2 e.d
  ·have n1:=ha.stand_no h1
   cases h2:hasC b.2 e.d
   ·simp[jnO]
   ·rw[n1]
    cases h3:Zg (visL l b.2) e
    ·simp[jnO]
    ·have h4:=Km h3
     rw[h4]
     by_cases hp:p=endP e.o
     ·simp[jnO,hp]
     ·simp[jnO,hp]
  ·cases h2:hasC b.2 e.d
   ·rw[hb.stand_no h2]
    cases h3:Zg (visL l a.2) e
    ·simp[jnO]
    ·have h4:=Km h3
     rw[h4]
     by_cases hp:p=endP e.o
     ·simp[jnO,hp]
     ·simp[jnO,hp]
   ·cases h3:Zg (visL l a.2) e<;>cases h4:Zg (visL l b.2) e
    ·simp[jnO]
    ·by_cases hp:p=endP e.o<;>simp[jnO,hp]
    ·by_cases hp:p=endP e.o<;>simp[jnO,hp]
    ·by_cases hp:p=endP e.o
     ·simp[jnO,hp,zQv]
     ·simp[jnO,hp]
theorem Kw.seesIn {l:List Ev}{x:Kn}(h:Kw l x){o:Opr}{d:Dt}(hd:d∈seesD x.1 o):hasC x.2 d=true:=by
 obtain⟨q,e,h1,rfl⟩:=qWx h.ok.ord hd
 exact h.ok.has _ h1
theorem Lw.more {l:List Ev}{x:Kn}(hl:Lw l)(h:Kw l x){o:Opr}{d:Dt}(ha:appI x.1 o d=0)(hf:∀ e∈l,e.d≠d):Lw (l++[⟨d,o,x.2⟩]):=by
 obtain⟨_,h2,h3,_⟩:=Kk ha
 obtain⟨_,g2,_⟩:=ZA h3
 refine⟨fun e he=>?_,?_,fun e he=>?_,fun e he z hz=>?_⟩
 ·rcases List.mem_append.1 he with he|he
  ·exact hl.op e he
  ·simp at he;subst he;exact h2
 ·rw[List.map_append,List.nodup_append]
  refine⟨hl.nd,by simp,fun a ha' b hb=>?_⟩
  obtain⟨e,he,rfl⟩:=List.mem_map.1 ha'
  simp at hb
  subst hb
  exact hf e he
 ·rcases List.mem_append.1 he with he|he
  ·exact hl.rt e he
  ·simp at he;subst he;exact g2
 ·rcases List.mem_append.1 he with he|he
  ·obtain⟨y,hy,e1⟩:=hl.seen e he z hz
   exact⟨y,by simp[hy],e1⟩
  ·simp at he;subst he
   obtain⟨y,hy,e1⟩:=h.inn z hz
   exact⟨y,by simp[hy],e1⟩
theorem zQ5 {l:List Ev}{c:List Sp}{e:Ev}(h:hasC c e.d=false):visL (l++[e]) c=visL l c:=by unfold visL;rw[List.filter_append];simp[h]
theorem Kw.other {l:List Ev}{x:Kn}(h:Kw l x){e:Ev}(hf:∀ y∈l,y.d≠e.d):Kw (l++[e]) x:=by
 have hno:hasC x.2 e.d=false:=by
  cases hh:hasC x.2 e.d
  ·rfl
  ·obtain⟨y,hy,e1⟩:=h.inn _ hh;exact absurd e1 (hf y hy)
 refine⟨h.ok,fun d hd=>?_,fun y hy hd d hs=>?_,fun y hy p=>?_⟩
 ·obtain⟨y,hy,e1⟩:=h.inn d hd;exact⟨y,by simp[hy],e1⟩
 ·rcases List.mem_append.1 hy with hy|hy
  ·exact h.clo y hy hd d hs
  ·simp at hy;subst hy;rw[hno]at hd;cases hd
 ·rw[zQ5 hno]
  rcases List.mem_append.1 hy with hy|hy
  ·exact h.st y hy p
  ·simp at hy;subst hy
   rw[h.none' hno,hno];simp
theorem Kw.made {l:List Ev}{x:Kn}(hl:Lw l)(h:Kw l x){o:Opr}{d:Dt}(ha:appI x.1 o d=0)(hf:∀ e∈l,e.d≠d):Kw (l++[⟨d,o,x.2⟩]) (jn x (appT x.1 o d,appC x.1 o d)):=by
 obtain⟨h1,h2,h3,_⟩:=Kk ha
 obtain⟨g1,g2,g3⟩:=ZA h3
 have hX:KOk (appT x.1 o d,appC x.1 o d):=(QM ha).1
 have hno:hasC x.2 d=false:=by
  cases hh:hasC x.2 d
  ·rfl
  ·obtain⟨y,hy,e1⟩:=h.inn _ hh;exact absurd e1 (hf y hy)
 have hhas:∀ z,hasC (jn x (appT x.1 o d,appC x.1 o d)).2 z=(hasC x.2 z||decide (z=d)):=fun z=>by
  rw[Kf h.ok hX]
  simp only
  rw[Kl ha]
  by_cases h4:z∈seesD x.1 o
  ·rw[h.seesIn h4];simp
  ·simp[h4]
 refine⟨qQ2 h.ok hX,fun z hz=>?_,fun e he hd z hs=>?_,fun e he p=>?_⟩
 ·rw[hhas,Bool.or_eq_true,decide_eq_true_eq]at hz
  rcases hz with hz|rfl
  ·obtain⟨y,hy,e1⟩:=h.inn z hz;exact⟨y,by simp[hy],e1⟩
  ·exact⟨⟨z,o,x.2⟩,by simp,rfl⟩
 ·rw[hhas,Bool.or_eq_true]
  rcases List.mem_append.1 he with he|he
  ·rw[hhas,decide_eq_false (hf e he),Bool.or_false]at hd
   exact .inl (h.clo e he hd z hs)
  ·simp at he;subst he;exact .inl hs
 ·have hvis:visL (l++[⟨d,o,x.2⟩]) (jn x (appT x.1 o d,appC x.1 o d)).2=visL l x.2++[⟨d,o,x.2⟩]:=by
   unfold visL
   rw[List.filter_append]
   congr 1
   ·exact List.filter_congr fun y hy=>by rw[hhas,decide_eq_false (hf y hy),Bool.or_false]
   ·simp[hhas]
  have hstd:Zg (visL l x.2++[⟨d,o,x.2⟩]) e=(Zg (visL l x.2) e&&undB e.d e.o ⟨d,o,x.2⟩):=by
   unfold Zg
   rw[List.all_append]
   simp[Bool.and_assoc]
  rw[hvis,hstd,jn_st h.ok hX,hhas]
  simp only
  rw[zZ9 ha]
  rcases List.mem_append.1 he with he|he
  ·have hne:=hf e he
   rw[if_neg (by rintro⟨_,_,e1⟩;exact hne e1),decide_eq_false hne,Bool.or_false,h.st e he]
   have hu:undB e.d e.o ⟨d,o,x.2⟩ = !(hasC x.2 e.d&&undoB o e.o):=rfl
   rw[hu]
   by_cases hc:hasC x.2 e.d=true/\Zg (visL l x.2) e=true/\p=endP e.o
   ·have hs:=h.st e he p
    rw[if_pos hc]at hs
    obtain⟨m1,m2⟩:=(QA h.ok.ord).1 hs
    have hsu:e.d∈seesD x.1 o↔undoB o e.o=true:=by
     refine qW2 h.ok.ord h2 (hl.op e he) (Km hc.2.1) (y:=entE e.o e.d) (by rw[←hc.2.2];exact m1) rfl fun p' z hz hzd=>?_
     have h5:stE x.1 p' e.d=some z:=(QA h.ok.ord).2 ⟨hz,hzd⟩
     rw[h.st e he]at h5
     split at h5
     ·rename_i h6;exact h6.2.2
     ·cases h5
    rw[if_pos hc,hc.1,hc.2.1]
    have hC:hasC (appC x.1 o d) e.d=undoB o e.o:=by
     rw[Kl ha,Bool.eq_iff_iff,decide_eq_true_eq,←hsu]
     exact⟨fun h=>h.resolve_left hne,.inr⟩
    rw[hC]
    cases hub:undoB o e.o
    ·simp[jnO,hc.2.2]
    ·simp[jnO]
   ·rw[if_neg hc,if_neg (fun ⟨q1,q2,q3⟩=>hc ⟨q1,by rw[Bool.and_eq_true]at q2;exact q2.1,q3⟩)]
    simp[jnO]
  ·simp at he
   subst he
   rw[h.none' hno,hno]
   have hall:Zg (visL l x.2) ⟨d,o,x.2⟩=Qv o.act:=h.stand_no hno
   have hu:undB d o ⟨d,o,x.2⟩=true:=by unfold undB;simp[hno]
   simp only[hall,hu]
   by_cases ha':Qv o.act=true<;>by_cases hp':p=endP o<;>simp[ha',hp',jnO]
theorem qW3:∀ t:Tr,t.Ord->(t.lvs []).Nodup:=by
 intro t
 induction t using Tr.ind with
 |h es ks ih=>
  intro ho
  obtain⟨o1,o2,o3⟩:=QO.1 ho
  rw[Tr.lvs,List.nodup_append]
  refine⟨?_,?_,?_⟩
  ·exact List.pairwise_map.2 (o1.imp fun {a b} h e=>by
    have:=(Prod.mk.inj e).2
    rw[this,Ji]at h;cases h)
  ·clear ho o1
   induction ks with
   |nil=>simp[Tr.lvsL]
   |cons x ks ih2=>
    obtain⟨k,u⟩:=x
    rw[Tr.lvsL,List.nodup_append]
    obtain⟨q1,q2⟩:=List.pairwise_cons.1 o2
    refine⟨?_,ih2 (fun k' t' h=>ih k' t' (by simp[h])) q2 (fun k' t' h=>o3 k' t' (by simp[h])),?_⟩
    ·rw[JM]
     have:=ih k u (by simp) (o3 k u (by simp)).2.2
     exact List.pairwise_map.2 (this.imp fun {a b} h e=>h (by
      simp only[List.nil_append,Prod.mk.injEq,List.append_cancel_left_eq]at e
      exact Prod.ext e.1 e.2))
    ·intro a ha b hb e
     subst e
     rw[JM,List.mem_map]at ha
     obtain⟨a',_,rfl⟩:=ha
     obtain⟨k',t',h1,h2⟩:=Vx.1 hb
     rw[JM,List.mem_map]at h2
     obtain⟨b',_,e2⟩:=h2
     have h3:=q1 _ h1
     simp only[List.nil_append,List.singleton_append,Prod.mk.injEq,List.cons.injEq]at e2
     rw[e2.1.1,Qw]at h3;cases h3
  ·intro a ha b hb e
   subst e
   obtain⟨x,_,rfl⟩:=List.mem_map.1 ha
   obtain⟨k',t',h1,h2⟩:=Vx.1 hb
   rw[JM,List.mem_map]at h2
   obtain⟨b',_,e2⟩:=h2
   simp at e2
theorem qW4:∀ t:Tr,t.Ord->∀ p:List ByteArray,t.sz+(t.lvs p).length*p.length<=((t.lvs p).map fun x=>x.1.length+1).sum:=by
 intro t
 induction t using Tr.ind with
 |h es ks ih=>
  intro ho p
  obtain⟨o1,o2,o3⟩:=QO.1 ho
  have h1:∀ es:List En,(es.map fun e=>((p,e):Lf)).map (fun x=>x.1.length+1)=es.map fun _=>p.length+1:=fun es=>by simp
  have h2:∀ es:List En,(es.map fun _=>p.length+1).sum=es.length*(p.length+1):=fun es=>by
   induction es with
   |nil=>simp
   |cons e es ih=>simp only[List.map_cons,List.sum_cons,ih,List.length_cons,Nat.add_mul];omega
  have h3:Tr.szL ks+(Tr.lvsL ks p).length*p.length<=((Tr.lvsL ks p).map fun x=>x.1.length+1).sum:=by
   clear ho o1 o2 h1 h2
   induction ks with
   |nil=>simp[Tr.szL,Tr.lvsL]
   |cons x ks ih2=>
    obtain⟨k,u⟩:=x
    obtain⟨c1,c2,c3⟩:=o3 k u (by simp)
    have e1:=ih k u (by simp) c3 (p++[k])
    have e2:=ih2 (fun k' t' h=>ih k' t' (by simp[h])) fun k' t' h=>o3 k' t' (by simp[h])
    obtain⟨y,hy⟩:=Xv u c3 c2
    have e3:1<=(u.lvs (p++[k])).length:=by
     rw[JM,List.length_map];exact List.length_pos_of_mem hy
    rw[Tr.szL,Tr.lvsL,List.map_append,List.sum_append,List.length_append]
    rw[List.length_append,List.length_singleton,Nat.mul_add,Nat.mul_one]at e1
    rw[Nat.add_mul]
    omega
  rw[Tr.sz,Tr.lvs,List.map_append,List.sum_append,List.length_append,h1,h2,List.length_map,Nat.add_mul]
  have:es.length*(p.length+1)=es.length*p.length+es.length:=by rw[Nat.mul_add,Nat.mul_one]
  omega
theorem zXa {α:Type}(f:α->Nat)(c:Nat):∀ (l:List α),(∀ x∈l,f x<=c)->(l.map f).sum<=l.length*c
 |[],_=>by simp
 |x :: l,h=>by
  have h1:=zXa f c l fun y hy=>h y (by simp[hy])
  have h2:=h x (by simp)
  simp only[List.map_cons,List.sum_cons,List.length_cons,Nat.add_mul];omega
theorem qW5:∀ (l:List (Int×Int)) (p:Option Int),runsR p l=true->(l.Pairwise fun a b=>a.1<b.1)/\∀ q,p=some q->∀ r∈l,q<r.1
 |[],_,_=>⟨.nil,fun _ _ _ h=>by cases h⟩
 |r :: l,p,h=>by
  obtain⟨h1,h2,h3⟩:=(Qq p r l).1 h
  obtain⟨i1,i2⟩:=qW5 l _ h3
  have h4:=h1.2.1
  refine⟨List.pairwise_cons.2 ⟨fun b hb=>by have:=i2 _ rfl b hb;omega,i1⟩,fun q hq x hx=>?_⟩
  subst hq
  have h5:=of_decide_eq_true (show decide (q+1<r.1)=true from h2)
  rcases List.mem_cons.1 hx with rfl|hx
  ·omega
  ·have:=i2 _ rfl x hx;omega
theorem zX3 {c:List Sp}(h:Qm c=true){D:List Dt}(hD:∀ d,hasC c d=true->d∈D):c.length<=D.length:=by
 have hd:=ZX c 0 (by unfold Qm at h;simp at h;exact h.1)
 have h1:(c.map fun s=>(⟨s.dc,s.fr⟩:Dt)).Nodup:=by
  refine List.pairwise_map.2 (List.pairwise_iff_getElem.2 fun i j hi hj hij e=>?_)
  simp only[Dt.mk.injEq]at e
  obtain⟨d1,d2⟩:=hd _ (List.getElem_mem hi)
  obtain⟨m,hm⟩:∃ m:Nat,(m:Int)=c[i].dc:=⟨c[i].dc.toNat,by omega⟩
  have h2:=(qW5 _ _ (Qx h (i:=m) (by omega))).1
  unfold partL at h2
  rw[List.pairwise_map,List.pairwise_filter]at h2
  have h3:=List.pairwise_iff_getElem.1 h2 i j hi hj hij (by simp[hm]) (by simp[hm,e.1])
  simp only at h3
  omega
 have h2:=List.Nodup.length_le_of_subset h1 (l₂:=D) fun x hx=>by
  obtain⟨s,hs,rfl⟩:=List.mem_map.1 hx
  refine hD _ ?_
  obtain⟨d1,d2⟩:=hd s hs
  obtain⟨m,hm⟩:∃ m:Nat,(m:Int)=s.dc:=⟨s.dc.toNat,by omega⟩
  have hr:(s.fr,s.hi)∈partL c s.dc:=by unfold partL;exact List.mem_map.2 ⟨s,List.mem_filter.2 ⟨hs,by simp⟩,rfl⟩
  have h3:=Ya h (i:=m) (by omega) (s.fr,s.hi) (by rw[hm];exact hr)
  unfold runOk at h3
  simp only at h3
  unfold hasC
  have h4:(⟨s.dc,s.fr⟩:Dt).right=true:=by rw[←hm];exact VJ (by omega) (by omega)
  rw[h4,Bool.true_and]
  unfold hasL
  rw[List.any_eq_true]
  exact⟨_,hr,by unfold inR;simp;omega⟩
 rwa [List.length_map]at h2
theorem Kw.size {l:List Ev}{x:Kn}(h:Kw l x):x.1.sz<=5*l.length/\x.2.length<=l.length:=by
 constructor
 ·have h1:=qW4 x.1 h.ok.ord []
  have h2:((x.1.lvs []).map fun x=>x.1.length+1).sum<=(x.1.lvs []).length*5:=zXa _ 5 _ fun y hy=>by
   have:=(h.ok.leaf y hy).1;omega
  have h3:((x.1.lvs []).map fun x=>x.2.dot).length<=(l.map (·.d)).length:=by
   refine List.Nodup.length_le_of_subset ?_ fun z hz=>?_
   ·refine List.pairwise_map.2 ((qW3 x.1 h.ok.ord).imp_of_mem fun {a b} ha hb hn e=>hn ?_)
    have s1:stE x.1 a.1 a.2.dot=some a.2:=(QA h.ok.ord).2 ⟨ha,rfl⟩
    have s2:stE x.1 b.1 a.2.dot=some b.2:=(QA h.ok.ord).2 ⟨hb,e.symm⟩
    obtain⟨e1,m1,n1,_,_,p1,q1⟩:=h.some' s1
    rw[←n1,h.st e1 m1]at s2
    split at s2
    ·rename_i hc
     have e3:=Option.some.inj s2
     exact Prod.ext (by rw[p1,hc.2.2]) (by rw[q1,e3])
    ·cases s2
   ·obtain⟨y,hy,rfl⟩:=List.mem_map.1 hz
    obtain⟨e,he,hd⟩:=h.inn _ (h.ok.has y hy)
    exact List.mem_map.2 ⟨e,he,hd⟩
  rw[List.length_map,List.length_map]at h3
  simp only[List.length_nil,Nat.mul_zero,Nat.add_zero]at h1
  omega
 ·have:=zX3 h.ok.ap (D:=l.map (·.d)) fun d hd=>by
   obtain⟨e,he,e1⟩:=h.inn d hd
   exact List.mem_map.2 ⟨e,he,e1⟩
  rwa [List.length_map]at this
def EvA (w:World)(ok:Nat->Prop)(e:Ev)(cs:List Value):Prop:=
 ∃ A c A' c',cs=[.int .i64 e.d.dc,.int .i64 e.d.n,.slice A e.o.path.length c,.int .i64 e.o.act,.string e.o.s,.int .i64 e.o.n,.slice A' e.seen.length c']/\SlA w ok 1 StE (.slice A e.o.path.length c) e.o.path/\SlA w ok 3 SpE (.slice A' e.seen.length c') e.seen/\e.d.Ok/\e.o.Ok
theorem EvA.mon:Emon EvA where
 up:=fun hk ho ⟨A,c,A',c',h1,h2,h3,h4⟩=>⟨A,c,A',c',h1,h2.up hk ho fun _ _ _ h=>h,h3.up hk ho fun _ _ _ h=>h,h4⟩
 one:=by rintro w ok x cs ⟨A,c,A',c',rfl,_⟩;simp[Value.oneCell']
def EvL (w:World)(v:Value)(l:List Ev):Prop:=SlP w w.heap.size 7 (EvA w (fun b=>b<w.heap.size)) v l
theorem EvL.up {w w':World}{v:Value}{l:List Ev}(h:EvL w v l)(hb:Below w.heap.size w w'):EvL w' v l:=
 SlP.imp h hb hb.size fun _ _ _ hx=>EvA.mon.up (fun b hb'=>hb.block b hb') (fun _ hb'=>Nat.lt_of_lt_of_le hb' hb.size) hx
theorem EvL.at {w:World}{A:Option Addr}{n:Nat}{l:List Ev}(h:EvL w (.slice A l.length n) l){k:Nat}{x:Ev}(hx:l[k]?=some x) :
  ∃ b off A5 c5 A6 c6,A=some ⟨b,off,none⟩/\b<w.heap.size/\SlP w w.heap.size 1 StE (.slice A5 x.o.path.length c5) x.o.path/\SlP w w.heap.size 3 SpE (.slice A6 x.seen.length c6) x.seen/\x.d.Ok/\x.o.Ok /\
   ∀ W,Below w.heap.size w W->(W.cell? ⟨b,off+k*7,none⟩=some (.int .i64 x.d.dc)/\W.cell? ⟨b,off+k*7+1,none⟩=some (.int .i64 x.d.n)/\W.cell? ⟨b,off+k*7+2,none⟩=some (.slice A5 x.o.path.length c5)/\W.cell? ⟨b,off+k*7+3,none⟩=some (.int .i64 x.o.act)/\W.cell? ⟨b,off+k*7+4,none⟩=some (.string x.o.s)/\W.cell? ⟨b,off+k*7+5,none⟩=some (.int .i64 x.o.n)/\W.cell? ⟨b,off+k*7+6,none⟩=some (.slice A6 x.seen.length c6)):=by
 obtain⟨A',n',hv,_,_,h3⟩:=h
 cases hv
 obtain⟨b,off,rfl,hb,hc⟩:=h3 (by rintro rfl;simp at hx)
 obtain⟨cs,⟨A5,c5,A6,c6,rfl,hp,hs,hd,ho⟩,_,hu⟩:=hc k x hx
 exact⟨b,off,A5,c5,A6,c6,rfl,hb,hp,hs,hd,ho,fun W hW=>⟨(hW.cell hb).trans (hu 0 _ rfl),(hW.cell hb).trans (hu 1 _ rfl),(hW.cell hb).trans (hu 2 _ rfl),(hW.cell hb).trans (hu 3 _ rfl),(hW.cell hb).trans (hu 4 _ rfl),(hW.cell hb).trans (hu 5 _ rfl),(hW.cell hb).trans (hu 6 _ rfl)⟩⟩
def sumP (es:List En):Int:=(es.map (·.v)).sum
theorem qW6:∀ (es:List En) (s:Int) (m:Nat),(∀ e∈es,-1099511627776<=e.v/\e.v<=1099511627776)->-(1099511627776*(m:Int))<=s->s<=1099511627776*(m:Int)->m+es.length<=1000 ->
  es.foldl (fun s e=>wrap64 (s+e.v)) s=s+sumP es/\-(1099511627776*((m+es.length:Nat):Int))<=s+sumP es/\s+sumP es<=1099511627776*((m+es.length:Nat):Int)
 |[],s,m,_,h1,h2,_=>by simp[sumP];omega
 |e :: es,s,m,he,h1,h2,h3=>by
  have hv:=he e (by simp)
  rw[List.length_cons]at h3
  have hw:wrap64 (s+e.v)=s+e.v:=by unfold wrap64;omega
  have h4:=qW6 es (s+e.v) (m+1) (fun x hx=>he x (by simp[hx])) (by push_cast;omega) (by push_cast;omega) (by omega)
  have hs:sumP (e :: es)=e.v+sumP es:=by simp[sumP]
  rw[List.foldl_cons,hw,h4.1,hs,List.length_cons]
  have e1:m+1+es.length=m+(es.length+1):=by omega
  rw[e1]at h4
  refine⟨by omega,?_,?_⟩
  ·have:=h4.2.1;omega
  ·have:=h4.2.2;omega
theorem zXb {es:List En}(he:∀ e∈es,-1099511627776<=e.v/\e.v<=1099511627776)(hl:es.length<=100):sumE es=sumP es/\-109951162777600<=sumP es/\sumP es<=109951162777600:=by
 have h:=qW6 es 0 0 he (by omega) (by omega) (by omega)
 unfold sumE
 refine⟨by rw[h.1];omega,?_,?_⟩
 ·have:=h.2.1;omega
 ·have:=h.2.2;omega
theorem ZB (x:En)(es:List En):sumP (x :: es)=x.v+sumP es:=by simp[sumP]
theorem valsR {A:Tr}(h:A.right 5=true):Zj A=sdL (txtL A):=by
 unfold Zj
 rw[if_pos h,sd_eq]
theorem sdExt {l m:List ByteArray}(h:∀ x,x∈l↔x∈m):sdL l=sdL m:=
 Zq Qw (fun _ _ _ h k=>QB h k) (Yx l).1 (Yx m).1 fun x=>by rw[(Yx l).2,(Yx m).2,h]
theorem qW7 {l m:List En}(h:l.Perm m):sumP l=sumP m:=by
 induction h with
 |nil=>rfl
 |cons x _ ih=>rw[ZB,ZB,ih]
 |swap x y l=>rw[ZB,ZB,ZB,ZB];omega
 |trans _ _ i1 i2=>rw[i1,i2]
theorem qQ6 {u:Tr}(ho:u.Ord){k:ByteArray}:k∈u.ks.map (·.1)↔∃ q y,((k :: q,y):Lf)∈u.lvs []:=by
 obtain⟨es,ks⟩:=u
 rw[List.mem_map]
 constructor
 ·rintro⟨⟨k',t⟩,hm,rfl⟩
  obtain⟨_,h2,h3⟩:=(QO.1 ho).2.2 k' t hm
  obtain⟨⟨q,y⟩,hy⟩:=Xv t h3 h2
  exact⟨q,y,Qt.2 ⟨t,hm,hy⟩⟩
 ·rintro⟨q,y,h⟩
  obtain⟨t,hm,_⟩:=Qt.1 h
  exact⟨(k,t),hm,rfl⟩
structure SInv (l:List Ev)(n:Nat->Int)(K:Nat->Kn):Prop where
 lw:Lw l
 kw:∀ i,i<3->Kw l (K i)
 nn:∀ i,i<3->0<=n i/\n i<=l.length
 nm:∀ e∈l,∃ i:Nat,i<3/\e.d.dc=(i:Int)/\e.d.n<=n i
 some:∀ e∈l,∃ i,i<3/\hasC (K i).2 e.d=true
def setK {α:Type}(K:Nat->α)(i:Nat)(x:α):Nat->α:=fun j=>if j=i then x else K j
theorem qQ7 {α:Type}(K:Nat->α)(i:Nat)(x:α):setK K i x i=x:=if_pos rfl
theorem SInv.nil:SInv [] (fun _=>0) (fun _=>kn0):=⟨Lw.nil,fun _ _=>Kw.nil,fun _ _=>(by simp),fun _ h=>(by cases h),fun _ h=>(by cases h)⟩
theorem SInv.fresh {l:List Ev}{n:Nat->Int}{K:Nat->Kn}(h:SInv l n K){i:Nat}(hi:i<3):∀ e∈l,e.d≠⟨(i:Int),n i+1⟩:=fun e he e1=>by
 obtain⟨k,hk,h1,h2⟩:=h.nm e he
 rw[e1]at h1 h2
 simp only at h1 h2
 have:k=i:=by omega
 subst this
 omega
theorem SInv.make {l:List Ev}{n:Nat->Int}{K:Nat->Kn}(h:SInv l n K){i:Nat}(hi:i<3){o:Opr}(ha:appI (K i).1 o ⟨(i:Int),n i+1⟩=0) :
  SInv (l++[⟨⟨(i:Int),n i+1⟩,o,(K i).2⟩]) (setK n i (n i+1)) (setK K i (jn (K i) (appT (K i).1 o ⟨(i:Int),n i+1⟩,appC (K i).1 o ⟨(i:Int),n i+1⟩))):=by
 have hf:=h.fresh hi
 refine⟨h.lw.more (h.kw i hi) ha hf,fun k hk=>?_,fun k hk=>?_,fun e he=>?_,fun e he=>?_⟩
 ·unfold setK;split
  ·exact (h.kw i hi).made h.lw ha hf
  ·exact (h.kw k hk).other hf
 ·have h1:=h.nn k hk
  have h2:=h.nn i hi
  unfold setK
  rw[List.length_append,List.length_singleton]
  split
  ·push_cast;omega
  ·push_cast;omega
 ·rcases List.mem_append.1 he with he|he
  ·obtain⟨k,hk,h1,h2⟩:=h.nm e he
   refine⟨k,hk,h1,?_⟩
   unfold setK;split
   ·rename_i e1;subst e1;omega
   ·exact h2
  ·simp at he;subst he
   exact⟨i,hi,rfl,by rw[qQ7];exact Int.le_refl _⟩
 ·have hX:KOk (appT (K i).1 o ⟨(i:Int),n i+1⟩,appC (K i).1 o ⟨(i:Int),n i+1⟩):=(QM ha).1
  rcases List.mem_append.1 he with he|he
  ·obtain⟨k,hk,hh⟩:=h.some e he
   refine⟨k,hk,?_⟩
   unfold setK;split
   ·rename_i e1
    subst e1
    rw[Kf (h.kw k hi).ok hX,hh];rfl
   ·exact hh
  ·simp at he;subst he
   refine⟨i,hi,?_⟩
   rw[qQ7,Kf (h.kw i hi).ok hX]
   simp only
   rw[Kl ha];simp
theorem Kw.same {l:List Ev}{a b:Kn}(ha:Kw l a)(hb:Kw l b)(hc:a.2=b.2):a=b:=by
 obtain⟨a1,a2⟩:=a
 obtain⟨b1,b2⟩:=b
 simp only at hc
 subst hc
 have h:=CaOk.ext2 ha.ok hb.ok (fun p d=>?_) fun _=>rfl
 ·exact Prod.ext h.1 h.2
 ·cases hd:hasC a2 d
  ·rw[ha.none' hd,hb.none' hd]
  ·obtain⟨e,he,rfl⟩:=ha.inn d hd
   rw[ha.st e he,hb.st e he]
theorem SInv.all {l:List Ev}{n:Nat->Int}{K:Nat->Kn}(h:SInv l n K):Kw l (jnL [K 0,K 1,K 2])/\jnL [K 2,K 0,K 1]=jnL [K 0,K 1,K 2]/\visL l (jnL [K 0,K 1,K 2]).2=l:=by
 have h0:=h.kw 0 (by omega)
 have h1:=h.kw 1 (by omega)
 have h2:=h.kw 2 (by omega)
 have e1:jnL [K 0,K 1,K 2]=jn (jn (K 0) (K 1)) (K 2):=qWl h0.ok
 have hok:∀ x∈[K 2,K 0,K 1],KOk x:=fun x hx=>by
  simp at hx
  rcases hx with rfl|rfl|rfl
  ·exact h2.ok
  ·exact h0.ok
  ·exact h1.ok
 refine⟨by rw[e1];exact (h0.join h1).join h2,zQz (by
  refine List.Perm.trans (List.Perm.swap (K 0) (K 2) [K 1]) ?_
  exact List.Perm.cons _ (List.Perm.swap (K 1) (K 2) [])) hok,?_⟩
 unfold visL
 rw[List.filter_eq_self]
 intro e he
 obtain⟨k,hk,hh⟩:=h.some e he
 rw[e1,Kf (h0.join h1).ok h2.ok,Kf h0.ok h1.ok]
 rcases (show k=0∨k=1∨k=2 by omega) with rfl|rfl|rfl<;>simp[hh]
theorem z_new {w1 w7:World}{a:Array Value}{e:TypeId}(hb:Below (w1.alloc (.cells a e (0,0))).heap.size (w1.alloc (.cells a e (0,0))) w7):w7.heap[w1.heap.size]?=some (.cells a e (0,0)):=(hb.block _ (by simp)).trans (Qd rfl)
theorem zJb {w1 w7:World}{o:Obj}{a:Array Value}{e:TypeId}(hb:Below ((w1.alloc o).alloc (.cells a e (0,0))).heap.size ((w1.alloc o).alloc (.cells a e (0,0))) w7):w7.heap[w1.heap.size+1]?=some (.cells a e (0,0)):=(hb.block _ (by simp)).trans (Qd (by simp))
theorem Kp {w1 w7:World}{a:Array Value}{e:TypeId}(hb:Below (w1.alloc (.cells a e (0,0))).drew.heap.size (w1.alloc (.cells a e (0,0))).drew w7):w7.heap[w1.heap.size]?=some (.cells a e (0,0)):=(hb.block _ (by simp)).trans (Qd (w:=w1) rfl)
theorem zX4 {w1 w7:World}{o:Obj}{a:Array Value}{e:TypeId}(hb:Below ((w1.alloc o).alloc (.cells a e (0,0))).drew.heap.size ((w1.alloc o).alloc (.cells a e (0,0))).drew w7):w7.heap[w1.heap.size+1]?=some (.cells a e (0,0)):=(hb.block _ (by simp)).trans (Qd (w:=w1.alloc o) (by simp))
abbrev V3:=Value×Value×Value
section
variable {w w':World}{g:Nat}{v:Nat->V3}{n:Nat->Int}{va:Value}{l:List Ev}{K:Nat->Kn}
end
def aftK (x:Kn)(o:Opr)(d:Dt):Kn:=jn x (appT x.1 o d,appC x.1 o d)
theorem qY4 {x:Kn}(hx:KOk x){o:Opr}{d:Dt}(h:appI x.1 o d=0):KOk (aftK x o d):=qQ2 hx (QM h).1
theorem st_es {u:Tr}(ho:u.Ord){y:En}:y∈u.es↔stE u [] y.dot=some y:=by rw[QA ho,←ZE];simp
def renE (f:Dt->Dt)(e:En):En:=⟨(f e.dot).dc,(f e.dot).n,e.s,e.v⟩
def RnT (f:Dt->Dt)(s t:Tr):Prop:=∀ p y,((p,y):Lf)∈t.lvs []↔∃ e,((p,e):Lf)∈s.lvs []/\y=renE f e
structure RnK (f:Dt->Dt)(x y:Kn):Prop where
 okx:KOk x
 oky:KOk y
 lf:RnT f x.1 y.1
 inj:∀ d e,hasC x.2 d=true->hasC x.2 e=true->f d=f e->d=e
 ctx:∀ d,hasC y.2 d=true↔∃ e,hasC x.2 e=true/\f e=d
theorem RnT.get {f:Dt->Dt}{s t:Tr}(h:RnT f s t)(hs:s.Ord)(ht:t.Ord)(p:List ByteArray):RnT f (getK s p) (getK t p):=fun q y=>by
 rw[ZL p ht,h]
 exact⟨fun ⟨e,h1,h2⟩=>⟨e,(ZL p hs).2 h1,h2⟩,fun ⟨e,h1,h2⟩=>⟨e,(ZL p hs).1 h1,h2⟩⟩
theorem RnT.keys {f:Dt->Dt}{s t:Tr}(h:RnT f s t)(hs:s.Ord)(ht:t.Ord):s.ks.map (·.1)=t.ks.map (·.1):=by
 refine Zq Qw (fun _ _ _ h k=>QB h k) ?_ ?_ fun k=>?_
 ·obtain⟨es,ks⟩:=s
  exact List.pairwise_map.2 (QO.1 hs).2.1
 ·obtain⟨es,ks⟩:=t
  exact List.pairwise_map.2 (QO.1 ht).2.1
 ·rw[qQ6 hs,qQ6 ht]
  exact⟨fun ⟨q,e,h1⟩=>⟨q,_,(h _ _).2 ⟨e,h1,rfl⟩⟩,fun ⟨q,y,h1⟩=>by obtain⟨e,h2,_⟩:=(h _ _).1 h1;exact⟨q,e,h2⟩⟩
theorem qY5 {t:Tr}(ht:t.Ord):t.es.Nodup:=by
 obtain⟨es,ks⟩:=t
 exact (QO.1 ht).1.imp fun {a b} hh e=>by rw[e,Ji]at hh;cases hh
theorem RnT.es {f:Dt->Dt}{s t:Tr}(h:RnT f s t)(hs:s.Ord)(ht:t.Ord)(hi:∀ d∈s.es,∀ e∈s.es,f d.dot=f e.dot->d.dot=e.dot):t.es.Perm (s.es.map (renE f)):=by
 refine (List.perm_ext_iff_of_nodup (qY5 ht) ?_).2 fun y=>?_
 ·refine List.pairwise_map.2 ((qY5 hs).imp_of_mem fun {a b} ha hb hne e=>hne ?_)
  have h1:a.dot=b.dot:=hi a ha b hb (congrArg En.dot e)
  have h2:=(st_es hs).1 ha
  have h3:=(st_es hs).1 hb
  rw[h1,h3]at h2;cases h2;rfl
 ·rw[←ZE,h,List.mem_map]
  exact⟨fun ⟨e,h1,h2⟩=>⟨e,ZE.1 h1,h2.symm⟩,fun ⟨e,h1,h2⟩=>⟨e,ZE.2 h1,h2.symm⟩⟩
theorem zQ6 (f:Dt->Dt)(es:List En):sumP (es.map (renE f))=sumP es:=by
 induction es with
 |nil=>rfl
 |cons e es ih=>rw[List.map_cons,ZB,ZB,ih];rfl
theorem zQ7 {f:Dt->Dt}{s t:Tr}(h:RnT f s t)(hs:s.right 5=true)(ht:t.right 5=true)(hi:∀ d∈s.es,∀ e∈s.es,f d.dot=f e.dot->d.dot=e.dot)(hz:s.es.length<=100)(k:Int):viewK k s=viewK k t:=by
 have os:=Zd _ _ hs
 have ot:=Zd _ _ ht
 have hp:=h.es os ot hi
 have hl:=hp.length_eq
 rw[List.length_map]at hl
 have e1:onB s=onB t:=by unfold onB;rw[hs,ht,hl]
 have hbd:∀ {A:Tr},A.right 5=true->∀ e∈A.es,-1099511627776<=e.v/\e.v<=1099511627776:=fun {A} hA e he=>by
  have:=(Y4 A 5 hA ([],e) (ZE.2 he)).2.2
  unfold En.right at this;simp at this;omega
 have e2:valT s=valT t:=by
  unfold valT
  rw[hs,ht,if_pos rfl,if_pos rfl,(zXb (hbd hs) hz).1,(zXb (hbd ht) (by omega)).1,qW7 hp,zQ6]
 have e3:Q0 s=Q0 t:=by
  rw[Kg hs,Kg ht]
  refine Zq Qw (fun _ _ _ h k=>QB h k) (Vi os) (Vi ot) fun x=>?_
  rw[qWn,qWn]
  exact⟨fun ⟨e,h1⟩=>⟨_,(h _ _).2 ⟨e,h1,rfl⟩⟩,fun ⟨y,h1⟩=>by obtain⟨e,h2,_⟩:=(h _ _).1 h1;exact⟨e,h2⟩⟩
 have e4:Zj s=Zj t:=by
  rw[valsR hs,valsR ht]
  refine sdExt fun x=>?_
  unfold txtL
  rw[List.mem_map,List.mem_map]
  constructor
  ·rintro⟨e,h1,rfl⟩;exact⟨renE f e,ZE.1 ((h _ _).2 ⟨e,ZE.2 h1,rfl⟩),rfl⟩
  ·rintro⟨y,h1,rfl⟩
   obtain⟨e,h2,rfl⟩:=(h _ _).1 (ZE.2 h1)
   exact⟨e,ZE.1 h2,rfl⟩
 have e5:ZD s=ZD t:=by unfold ZD;rw[hs,ht,if_pos rfl,if_pos rfl,h.keys os ot]
 unfold viewK
 rw[e1,e2,e3,e4,e5]
def seeAt (o:Opr)(p:List ByteArray):Prop:=if o.act=3∨o.act=4 then ∃ q,p=o.path++[o.s]++q else if o.act=5 then False else if o.act=6 then p=o.path else ∃ q,p=o.path++q
theorem qY6 {t:Tr}(h:t.Ord){o:Opr}{x:Dt}:x∈seesD t o↔∃ p e,((p,e):Lf)∈t.lvs []/\e.dot=x/\seeAt o p:=by
 unfold seesD seeAt
 split
 ·rw[YN h]
  exact⟨fun ⟨q,e,h1,h2⟩=>⟨_,e,h1,h2,q,rfl⟩,fun ⟨p,e,h1,h2,q,h3⟩=>⟨q,e,h3▸h1,h2⟩⟩
 ·split
  ·simp
  ·split
   ·rw[qWw h]
    exact⟨fun ⟨e,h1,h2⟩=>⟨_,e,h1,h2,rfl⟩,fun ⟨p,e,h1,h2,h3⟩=>⟨e,h3▸h1,h2⟩⟩
   ·rw[YN h]
    exact⟨fun ⟨q,e,h1,h2⟩=>⟨_,e,h1,h2,q,rfl⟩,fun ⟨p,e,h1,h2,q,h3⟩=>⟨q,e,h3▸h1,h2⟩⟩
theorem RnK.sees {f:Dt->Dt}{x y:Kn}(h:RnK f x y){o:Opr}{z:Dt}(hz:hasC x.2 z=true):f z∈seesD y.1 o↔z∈seesD x.1 o:=by
 rw[qY6 h.oky.ord,qY6 h.okx.ord]
 constructor
 ·rintro⟨p,e,h1,h2,h3⟩
  obtain⟨e1,h4,rfl⟩:=(h.lf _ _).1 h1
  exact⟨p,e1,h4,h.inj _ _ (h.okx.has _ h4) hz h2,h3⟩
 ·rintro⟨p,e,h1,rfl,h3⟩
  exact⟨p,renE f e,(h.lf _ _).2 ⟨e,h1,rfl⟩,rfl,h3⟩
theorem RnK.fullAt {f:Dt->Dt}{x y:Kn}(h:RnK f x y)(p:List ByteArray)(k:Nat):fullAt x.1 p k=fullAt y.1 p k:=by
 have h1:=(h.lf.get h.okx.ord h.oky.ord (p.take k)).keys (JF h.okx.ord _) (JF h.oky.ord _)
 have h2:(getK x.1 (p.take k)).ks.length=(getK y.1 (p.take k)).ks.length:=by have:=congrArg List.length h1;simpa using this
 have h3:∀ s,hasK (getK x.1 (p.take k)) s=hasK (getK y.1 (p.take k)) s:=fun s=>by
  rw[Bool.eq_iff_iff]
  unfold hasK
  rw[List.any_eq_true,List.any_eq_true]
  have h4:∀ t:Tr,(∃ z∈t.ks,decide (z.1=s)=true)↔s∈t.ks.map (·.1):=fun t=>by rw[List.mem_map];simp
  rw[h4,h4,h1]
 unfold Go.Proofs.YtbcoelggdikipaaGreat.fullAt
 rw[h2,h3]
theorem RnK.dotEs {f:Dt->Dt}{x y:Kn}(h:RnK f x y)(p:List ByteArray):∀ d∈(getK x.1 p).es,∀ e∈(getK x.1 p).es,f d.dot=f e.dot->d.dot=e.dot:=fun d hd e he=>by
 have h1:∀ d∈(getK x.1 p).es,hasC x.2 d.dot=true:=fun d hd=>h.okx.has _ ((ZL p h.okx.ord).1 (ZE.2 hd))
 exact h.inj _ _ (h1 d hd) (h1 e he)
theorem RnK.full {f:Dt->Dt}{x y:Kn}(h:RnK f x y)(o:Opr):fullB x.1 o=fullB y.1 o:=by
 have h1:=((h.lf.get h.okx.ord h.oky.ord (endP o)).es (JF h.okx.ord _) (JF h.oky.ord _) (h.dotEs _)).length_eq
 rw[List.length_map]at h1
 unfold fullB fullP
 rw[h1,Jl fun k _=>h.fullAt (endP o) k]
theorem RnK.app {f:Dt->Dt}{x y:Kn}(h:RnK f x y)(o:Opr){d e:Dt}(hd:d.right=true)(he:e.right=true)(hd':hasC x.2 d=false)(he':hasC y.2 e=false):appI x.1 o d=appI y.1 o e:=by
 have hx:x.1.right 5=true:=(ZZ h.okx.ord).2 h.okx.leaf
 have hy:y.1.right 5=true:=(ZZ h.oky.ord).2 h.oky.leaf
 have hno:∀ {z:Kn}{c:Dt},KOk z->hasC z.2 c=false->c∉z.1.dots:=fun {z c} hz hc hm=>by
  obtain⟨p,e,h1,rfl⟩:=(Yb _ _).1 hm
  rw[hz.has _ h1]at hc;cases hc
 unfold appI
 rw[hx,hy,qXc hx hd (hno h.okx hd'),qXc hy he (hno h.oky he'),h.full o]
theorem VS {x:Kn}(hx:KOk x){o:Opr}{d:Dt}(h:appI x.1 o d=0)(hd:hasC x.2 d=false)(p:List ByteArray)(e:En):((p,e):Lf)∈(aftK x o d).1.lvs []↔(Qv o.act=true/\p=endP o/\e=entE o d)∨(((p,e):Lf)∈x.1.lvs []/\e.dot∉seesD x.1 o):=by
 have hX:KOk (appT x.1 o d,appC x.1 o d):=(QM h).1
 have hs:∀ {t:Tr},t.Ord->(((p,e):Lf)∈t.lvs []↔stE t p e.dot=some e):=fun {t} ho=>by rw[QA ho];simp
 rw[hs (qY4 hx h).ord,hs hx.ord]
 unfold aftK
 rw[jn_st hx hX]
 simp only
 rw[zZ9 h,Kl h]
 by_cases hz:e.dot=d
 ·have hn:stE x.1 p e.dot=none:=by
   cases hs:stE x.1 p e.dot with
   |none=>rfl
   |some y=>have h1:hasC x.2 e.dot=true:=(Q7 hx hs).1;rw[hz,hd]at h1;cases h1
  rw[hn,hz,hd]
  by_cases h1:Qv o.act=true/\p=endP o
  ·rw[if_pos ⟨h1.1,h1.2,rfl⟩]
   simp[jnO,h1.1,h1.2,eq_comm]
  ·rw[if_neg (fun q=>h1 ⟨q.1,q.2.1⟩)]
   simp only[jnO]
   exact⟨fun q=>(by cases q),fun q=>by rcases q with⟨a,b,_⟩|⟨a,_⟩;exact absurd ⟨a,b⟩ h1;cases a⟩
 ·rw[if_neg (fun q=>hz q.2.2)]
  have hne:e≠entE o d:=fun q=>hz (by rw[q];rfl)
  cases hs:stE x.1 p e.dot with
  |none=>simp[jnO,hne]
  |some y=>by_cases h1:e.dot∈seesD x.1 o<;>simp[jnO,h1,hz,hne]
theorem Yz {x:Kn}(hx:KOk x){o:Opr}{d:Dt}(h:appI x.1 o d=0)(z:Dt):hasC (aftK x o d).2 z=true↔hasC x.2 z=true∨z=d:=by
 have hX:KOk (appT x.1 o d,appC x.1 o d):=(QM h).1
 unfold aftK
 rw[Kf hx hX]
 simp only
 rw[Kl h,Bool.or_eq_true,decide_eq_true_eq]
 constructor
 ·rintro (h1|h1|h1)
  ·exact .inl h1
  ·exact .inr h1
  ·obtain⟨q,e,h2,rfl⟩:=qWx hx.ord h1
   exact .inl (hx.has _ h2)
 ·rintro (h1|h1)
  ·exact .inl h1
  ·exact .inr (.inl h1)
theorem RnK.step {f:Dt->Dt}{x y:Kn}(h:RnK f x y){o:Opr}{d:Dt}(ha:appI x.1 o d=0)(hb:appI y.1 o (f d)=0)(hd:hasC x.2 d=false)(he:hasC y.2 (f d)=false):RnK f (aftK x o d) (aftK y o (f d)):=by
 refine⟨qY4 h.okx ha,qY4 h.oky hb,fun p z=>?_,fun a b h1 h2 h3=>?_,fun z=>?_⟩
 ·rw[VS h.oky hb he]
  constructor
  ·rintro (⟨h1,h2,rfl⟩|⟨h1,h2⟩)
   ·exact⟨entE o d,(VS h.okx ha hd _ _).2 (.inl ⟨h1,h2,rfl⟩),rfl⟩
   ·obtain⟨e,h3,rfl⟩:=(h.lf _ _).1 h1
    exact⟨e,(VS h.okx ha hd _ _).2 (.inr ⟨h3,fun h4=>h2 ((h.sees (h.okx.has _ h3)).2 h4)⟩),rfl⟩
  ·rintro⟨e,h1,rfl⟩
   rcases (VS h.okx ha hd _ _).1 h1 with⟨h2,h3,rfl⟩|⟨h2,h3⟩
   ·exact .inl ⟨h2,h3,rfl⟩
   ·exact .inr ⟨(h.lf _ _).2 ⟨e,h2,rfl⟩,fun h4=>h3 ((h.sees (h.okx.has _ h2)).1 h4)⟩
 ·have hk:∀ z,hasC x.2 z=true->f z≠f d:=fun z hz e=>by
   have:=(h.ctx (f d)).2 ⟨z,hz,e⟩
   rw[he]at this;cases this
  rw[Yz h.okx ha]at h1 h2
  rcases h1 with h1|rfl<;>rcases h2 with h2|rfl
  ·exact h.inj _ _ h1 h2 h3
  ·exact absurd h3 (hk _ h1)
  ·exact absurd h3.symm (hk _ h2)
  ·rfl
 ·rw[Yz h.oky hb,h.ctx]
  constructor
  ·rintro (⟨e,h1,h2⟩|rfl)
   ·exact⟨e,(Yz h.okx ha _).2 (.inl h1),h2⟩
   ·exact⟨d,(Yz h.okx ha _).2 (.inr rfl),rfl⟩
  ·rintro⟨e,h1,h2⟩
   rcases (Yz h.okx ha _).1 h1 with h1|rfl
   ·exact .inl ⟨e,h1,h2⟩
   ·exact .inr h2.symm
theorem RnK.self {f:Dt->Dt}{x:Kn}(hx:KOk x)(hf:∀ d,hasC x.2 d=true->f d=d):RnK f x x:=by
 refine⟨hx,hx,fun p y=>?_,fun d e h1 h2 h3=>by rw[hf d h1,hf e h2]at h3;exact h3,fun d=>⟨fun h=>⟨d,h,hf d h⟩,fun ⟨e,h1,h2⟩=>by rw[hf e h1]at h2;exact h2▸h1⟩⟩
 have he:∀ {p e},((p,e):Lf)∈x.1.lvs []->renE f e=e:=fun {p e} h=>by
  have h1:=hf _ (hx.has _ h)
  simp only at h1
  unfold renE
  rw[h1];rfl
 exact⟨fun h=>⟨y,h,(he h).symm⟩,fun ⟨e,h1,h2⟩=>by rw[he h1]at h2;exact h2▸h1⟩
theorem RnK.read {f:Dt->Dt}{x y:Kn}(h:RnK f x y)(p:List ByteArray)(hz:x.1.sz<=100):readI x.1 p=readI y.1 p/\readV x.1 p=readV y.1 p:=by
 have hx:x.1.right 5=true:=(ZZ h.okx.ord).2 h.okx.leaf
 have hy:y.1.right 5=true:=(ZZ h.oky.ord).2 h.oky.leaf
 have hI:readI x.1 p=readI y.1 p:=by unfold readI;rw[hx,hy]
 refine⟨hI,?_⟩
 have h1:=Q1 x.1 p
 have h2:=es_sz (getK x.1 p)
 unfold readV
 rw[hI,zQ7 (h.lf.get h.okx.ord h.oky.ord p) (QW hx p) (QW hy p) (h.dotEs p) (by omega)]
def stpN (nm:Nat->Dt)(s:Nat×Kn×Kn)(o:Opr):Nat×Kn×Kn:=(s.1+1,aftK s.2.1 o (nm s.1),jn s.2.2 (appT s.2.1.1 o (nm s.1),appC s.2.1.1 o (nm s.1)))
def chS (nm:Nat->Dt)(g:Kn)(ops:List Opr):Nat×Kn×Kn:=ops.foldl (stpN nm) (0,g,kn0)
theorem qY7 (nm:Nat->Dt)(g:Kn)(ops:List Opr)(o:Opr):chS nm g (ops++[o])=stpN nm (chS nm g ops) o:=by unfold chS;rw[List.foldl_append];rfl
theorem Y7 {nm:Nat->Dt}{g:Kn}{ops:List Opr}{k:Nat}{o:Opr}(h:ops[k]?=some o):chS nm g (ops.take (k+1))=stpN nm (chS nm g (ops.take k)) o:=by rw[List.take_add_one,h];exact qY7 _ _ _ _
theorem Jo (nm:Nat->Dt)(g:Kn):∀ ops:List Opr,(chS nm g ops).1=ops.length:=fun ops=>by
 have:∀ (ops:List Opr) (s:Nat×Kn×Kn),(ops.foldl (stpN nm) s).1=s.1+ops.length:=fun ops=>by
  induction ops with
  |nil=>intro s;rfl
  |cons o ops ih=>intro s;rw[List.foldl_cons,ih,List.length_cons];show s.1+1+_=_;omega
 unfold chS;rw[this];exact Nat.zero_add _
def okTx (nm:Nat->Dt)(g:Kn)(ops:List Opr):Prop:=∀ (k:Nat) o,ops[k]?=some o->appI (chS nm g (ops.take k)).2.1.1 o (nm k)=0
theorem Kq {t:Tr}{o:Opr}{d:Dt}(h:appI t o d=0):(appC t o d).length<=4*(t.sz+2):=by
 have e1:appC t o d=ctxOf (d :: seesD t o):=by unfold appC;rw[if_pos h]
 have e2:(ctxOf (d :: seesD t o)).length<=4*((d :: seesD t o).length+1):=Zn _ 4
 have e3:=qY0 t o
 rw[e1]
 simp only[List.length_cons]at e2
 omega
structure ChI (nm:Nat->Dt)(g:Kn)(k:Nat)(s:Nat×Kn×Kn):Prop where
 now:KOk s.2.1
 out:KOk s.2.2
 has:∀ z,hasC s.2.1.2 z=true↔hasC g.2 z=true∨∃ i,i<k/\z=nm i
 eq:jn g s.2.2=s.2.1
 z1:s.2.1.1.sz<=g.1.sz+5*k
 z2:s.2.2.1.sz<=5*k
 l1:s.2.1.2.length<=g.2.length+500*k
 l2:s.2.2.2.length<=500*k
theorem Vl {nm:Nat->Dt}{g:Kn}{ops:List Opr}(hg:KOk g)(hz:g.1.sz<=60)(hl:ops.length<=12)(hok:okTx nm g ops):∀ k,k<=ops.length->ChI nm g k (chS nm g (ops.take k))
 |0,_=>by
  refine⟨hg,qQ1,fun z=>?_,?_,by simp[chS],by simp[chS,kn0,Tr.sz,Tr.szL],by simp[chS],by simp[chS,kn0]⟩
  ·simp[chS]
  ·show jn g kn0=g
   rw[qWj hg qQ1,qWk hg]
 |k+1,hk=>by
  have ih:=Vl hg hz hl hok k (by omega)
  have hlt:k<ops.length:=by omega
  have hx:=List.getElem?_eq_getElem hlt
  have ha:=hok k _ hx
  have h1:(chS nm g (ops.take k)).1=k:=by rw[Jo,List.length_take];omega
  rw[Y7 hx]
  generalize chS nm g (ops.take k)=s at *
  obtain⟨n,x,u⟩:=s
  simp only at h1 ha
  subst h1
  obtain⟨i1,i2,i3,i4,i5,i6,i7,i8⟩:=ih
  simp only at i1 i2 i3 i4 i5 i6 i7 i8
  have hX:KOk (appT x.1 ops[n] (nm n),appC x.1 ops[n] (nm n)):=(QM ha).1
  have hs:(appT x.1 ops[n] (nm n)).sz<=5:=(QM ha).2
  have hc:=Kq ha
  have j1:=jn_sz i1 hX
  have j2:=jn_sz i2 hX
  simp only at j1 j2
  refine⟨qY4 i1 ha,qQ2 i2 hX,fun z=>?_,?_,?_,?_,?_,?_⟩
  ·show hasC (aftK x ops[n] (nm n)).2 z=true↔_
   rw[Yz i1 ha,i3]
   constructor
   ·rintro ((h|⟨i,h,e⟩)|h)
    ·exact .inl h
    ·exact .inr ⟨i,by omega,e⟩
    ·exact .inr ⟨n,by omega,h⟩
   ·rintro (h|⟨i,h,e⟩)
    ·exact .inl (.inl h)
    ·rcases (show i<n∨i=n by omega) with h2|rfl
     ·exact .inl (.inr ⟨i,h2,e⟩)
     ·exact .inr e
  ·show jn g (jn u _)=aftK x ops[n] (nm n)
   rw[←VL hg i2 hX,i4];rfl
  ·exact Nat.le_trans j1.1 (by omega)
  ·exact Nat.le_trans j2.1 (by omega)
  ·exact Nat.le_trans j1.2 (by omega)
  ·exact Nat.le_trans j2.2 (by omega)
def txD (k:Nat):Dt:=⟨0,1099511627765+(k:Int)⟩
def nmF (nm:Nat->Dt)(d:Dt):Dt:=if d.dc=0/\1099511627765<=d.n/\d.n<=1099511627776 then nm (d.n-1099511627765).toNat else d
theorem zJc (nm:Nat->Dt){k:Nat}(hk:k<12):nmF nm (txD k)=nm k:=by
 unfold nmF txD
 simp only
 rw[if_pos (by refine⟨?_,?_,?_⟩<;>first|trivial|omega)]
 congr 1;omega
theorem zJd (nm:Nat->Dt){d:Dt}(h:∀ k,k<12->d≠txD k):nmF nm d=d:=by
 unfold nmF
 split
 ·rename_i hc
  exfalso
  refine h (d.n-1099511627765).toNat (by omega) ?_
  obtain⟨a,b⟩:=d
  simp only at hc
  unfold txD
  simp only[Dt.mk.injEq]
  omega
 ·rfl
theorem qW8 {k:Nat}(hk:k<12):(txD k).right=true:=VJ (i:=0) (by omega) (by omega)
theorem zX5 {i j:Nat}(h:txD i=txD j):i=j:=by
 have:=congrArg Dt.n h
 simp only[txD]at this
 omega
theorem zXc {nm:Nat->Dt}{g:Kn}{ops:List Opr}(hg:KOk g)(hz:g.1.sz<=60)(hl:ops.length<=12)(hown:∀ k,k<12->hasC g.2 (txD k)=false)(hok:okTx txD g ops)(hr:∀ k,k<ops.length->(nm k).right=true)(hno:∀ k,k<ops.length->hasC g.2 (nm k)=false)(hi:∀ i j,nm i=nm j->i=j) :
  ∀ k,k<=ops.length->(∀ (j:Nat) o,j<k->ops[j]?=some o->appI (chS nm g (ops.take j)).2.1.1 o (nm j)=0)/\RnK (nmF nm) (chS txD g (ops.take k)).2.1 (chS nm g (ops.take k)).2.1/\∀ z,hasC (chS nm g (ops.take k)).2.1.2 z=true↔hasC g.2 z=true∨∃ i,i<k/\z=nm i
 |0,_=>by
  refine⟨fun _ _ h=>absurd h (Nat.not_lt_zero _),?_,fun z=>by simp[chS]⟩
  show RnK (nmF nm) g g
  refine RnK.self hg fun d hd=>zJd nm fun k hk e=>?_
  have h1:=hown k hk
  rw[←e]at h1
  have h2:hasC g.2 d=true:=hd
  rw[h1]at h2;cases h2
 |k+1,hk=>by
  obtain⟨a1,a2,a3⟩:=zXc hg hz hl hown hok hr hno hi k (by omega)
  have hlt:k<ops.length:=by omega
  have hx:=List.getElem?_eq_getElem hlt
  have hT:=Vl hg hz hl hok k (by omega)
  have ha:=hok k _ hx
  have e1:(chS txD g (ops.take k)).1=k:=by rw[Jo,List.length_take];omega
  have e2:(chS nm g (ops.take k)).1=k:=by rw[Jo,List.length_take];omega
  have n1:hasC (chS txD g (ops.take k)).2.1.2 (txD k)=false:=by
   rw[Bool.eq_false_iff]
   intro h
   rcases (hT.has _).1 h with h|⟨i,h1,h2⟩
   ·rw[hown k (by omega)]at h;cases h
   ·have:=zX5 h2;omega
  have n2:hasC (chS nm g (ops.take k)).2.1.2 (nm k)=false:=by
   rw[Bool.eq_false_iff]
   intro h
   rcases (a3 _).1 h with h|⟨i,h1,h2⟩
   ·rw[hno k hlt]at h;cases h
   ·have:=hi _ _ h2;omega
  have hb:appI (chS nm g (ops.take k)).2.1.1 ops[k] (nm k)=0:=by rw[←a2.app ops[k] (qW8 (by omega)) (hr k hlt) n1 n2];exact ha
  have hf:nmF nm (txD k)=nm k:=zJc nm (by omega)
  refine⟨fun j o hj ho=>?_,?_,fun z=>?_⟩
  ·rcases (show j<k∨j=k by omega) with h|rfl
   ·exact a1 j o h ho
   ·rw[hx]at ho;cases ho;exact hb
  ·rw[Y7 hx,Y7 hx]
   show RnK _ (aftK _ _ (txD _)) (aftK _ _ (nm _))
   rw[e1,e2,←hf]
   exact a2.step ha (by rw[hf];exact hb) n1 (by rw[hf];exact n2)
  ·rw[Y7 hx]
   show hasC (aftK _ _ (nm _)).2 z=true↔_
   rw[e2,Yz a2.oky hb,a3]
   constructor
   ·rintro ((h|⟨i,h,e⟩)|h)
    ·exact .inl h
    ·exact .inr ⟨i,by omega,e⟩
    ·exact .inr ⟨k,by omega,h⟩
   ·rintro (h|⟨i,h,e⟩)
    ·exact .inl (.inl h)
    ·rcases (show i<k∨i=k by omega) with h2|rfl
     ·exact .inl (.inr ⟨i,h2,e⟩)
     ·exact .inr e
theorem zQ8 {nm:Nat->Dt}{g:Kn}{ops:List Opr}(hg:KOk g)(hz:g.1.sz<=40)(hl:ops.length<=12)(hown:∀ k,k<12->hasC g.2 (txD k)=false)(hok:okTx txD g ops)(hr:∀ k,k<ops.length->(nm k).right=true)(hno:∀ k,k<ops.length->hasC g.2 (nm k)=false)(hi:∀ i j,nm i=nm j->i=j)(p:List ByteArray) :
  okTx nm g ops/\jn g (chS nm g ops).2.2=(chS nm g ops).2.1/\readI (chS txD g ops).2.1.1 p=readI (chS nm g ops).2.1.1 p/\readV (chS txD g ops).2.1.1 p=readV (chS nm g ops).2.1.1 p:=by
 obtain⟨a1,a2,_⟩:=zXc hg (by omega) hl hown hok hr hno hi ops.length (Nat.le_refl _)
 have hok':okTx nm g ops:=fun k o h=>a1 k o (List.getElem?_eq_some_iff.1 h).1 h
 have h1:=Vl hg (by omega) hl hok' ops.length (Nat.le_refl _)
 have h2:=Vl hg (by omega) hl hok ops.length (Nat.le_refl _)
 rw[List.take_of_length_le (Nat.le_refl _)]at a2 h1 h2
 have h3:=h2.z1
 obtain⟨r1,r2⟩:=a2.read p (by omega)
 exact⟨hok',h1.eq,r1,r2⟩
def OpA (w:World)(ok:Nat->Prop)(o:Opr)(cs:List Value):Prop:=
 ∃ A c,cs=[.slice A o.path.length c,.int .i64 o.act,.string o.s,.int .i64 o.n]/\SlA w ok 1 StE (.slice A o.path.length c) o.path/\o.Ok
theorem OpA.mon:Emon OpA where
 up:=fun hk ho ⟨A,c,h1,h2,h3⟩=>⟨A,c,h1,h2.up hk ho fun _ _ _ h=>h,h3⟩
 one:=by rintro w ok x cs ⟨A,c,rfl,_⟩;simp[Value.oneCell']
theorem eiOp:Qs Tryz.prog 47 65 4 56:=Qs.mk (z:=.agg #[.slice none 0 0,.int .i64 0,.string ByteArray.empty,.int .i64 0]) Tryz.underlying47 (by kernel_rfl) rfl
def OpL (w:World)(v:Value)(l:List Opr):Prop:=SlP w w.heap.size 4 (OpA w (fun b=>b<w.heap.size)) v l
theorem OpL.up {w w':World}{v:Value}{l:List Opr}(h:OpL w v l)(hb:Below w.heap.size w w'):OpL w' v l:=
 SlP.imp h hb hb.size fun _ _ _ hx=>OpA.mon.up (fun b hb'=>hb.block b hb') (fun _ hb'=>Nat.lt_of_lt_of_le hb' hb.size) hx
theorem OwnD.opl {w:World}{base:Nat}{okp:Nat->Prop}{v:Value}{l:List Opr}(h:OwnD w base 65 4 OpA okp v l)(hl:l.length<=Big):OpL w v l:=
 (OwnD.sl h OpA.mon hl).imp (Below.refl _ _) (Nat.le_refl _) fun _ _ _ hx=>OpA.mon.up (fun _ _=>rfl) (fun _ hb=>hb.2) hx
theorem OpL.at {w:World}{A:Option Addr}{n:Nat}{l:List Opr}(h:OpL w (.slice A l.length n) l){k:Nat}{x:Opr}(hx:l[k]?=some x) :
  ∃ b off A5 c5,A=some ⟨b,off,none⟩/\b<w.heap.size/\SlP w w.heap.size 1 StE (.slice A5 x.path.length c5) x.path/\x.Ok /\
   ∀ W:World,W.heap[b]?=w.heap[b]?->(W.cell? ⟨b,off+k*4,none⟩=some (.slice A5 x.path.length c5)/\W.cell? ⟨b,off+k*4+1,none⟩=some (.int .i64 x.act)/\W.cell? ⟨b,off+k*4+2,none⟩=some (.string x.s)/\W.cell? ⟨b,off+k*4+3,none⟩=some (.int .i64 x.n)):=by
 obtain⟨A',n',hv,_,_,h3⟩:=h
 cases hv
 obtain⟨b,off,rfl,hb,hc⟩:=h3 (by rintro rfl;simp at hx)
 obtain⟨cs,⟨A5,c5,rfl,hp,ho⟩,_,hu⟩:=hc k x hx
 have e:∀ W:World,W.heap[b]?=w.heap[b]?->∀ o,W.cell? ⟨b,o,none⟩=w.cell? ⟨b,o,none⟩:=fun W hW o=>World.cell?_of_block hW
 exact⟨b,off,A5,c5,rfl,hb,hp,ho,fun W hW=>⟨(e W hW _).trans (hu 0 _ rfl),(e W hW _).trans (hu 1 _ rfl),(e W hW _).trans (hu 2 _ rfl),(e W hW _).trans (hu 3 _ rfl)⟩⟩
def Kr (v:Nat->V3)(vo:Value):Array Value:=#[(v 0).1,(v 0).2.1,(v 0).2.2,(v 1).1,(v 1).2.1,(v 1).2.2,vo]
def okGo (w:World)(g:Nat)(vo:Value)(okp:Nat->Prop)(b:Nat):Prop:=okp b/\b≠g/\b<w.heap.size/\vo.ownBlock≠some b
structure TxB (w:World)(g:Nat)(okp:Nat->Prop)(v:Nat->V3)(vo:Value)(G N:Kn)(ops:List Opr):Prop where
 box:w.heap[g]?=some (.cells (Kr v vo) 100 (0,0))
 tg:G.1.rda w (okGo w g vo okp) (v 0).1 (v 0).2.1
 cg:SlA w (okGo w g vo okp) 3 SpE (v 0).2.2 G.2
 tn:N.1.rda w (okGo w g vo okp) (v 1).1 (v 1).2.1
 cn:SlA w (okGo w g vo okp) 3 SpE (v 1).2.2 N.2
 own:OwnD w (g+1) 65 4 OpA (fun b=>okp b/\b≠g) vo ops
 ob:∀ b,vo.ownBlock=some b->okp b
section
variable {w w':World}{g:Nat}{okp okq:Nat->Prop}{v:Nat->V3}{vo:Value}{G N:Kn}{ops:List Opr}
theorem TxB.lt (h:TxB w g okp v vo G N ops):g<w.heap.size:=lt_of_block h.box
theorem TxB.keep (h:TxB w g okp v vo G N ops)(hk:∀ b,(okp b∨b=g)->b<w.heap.size->w'.heap[b]?=w.heap[b]?)(hs:w.heap.size<=w'.heap.size)(ho:∀ b,okp b->b<w.heap.size->okq b):TxB w' g okq v vo G N ops:=by
 have k1:Keeps (okGo w g vo okp) w w':=fun b hb=>hk b (.inl hb.1) hb.2.2.1
 have k2:∀ b,okGo w g vo okp b->okGo w' g vo okq b:=fun b hb=>⟨ho b hb.1 hb.2.2.1,hb.2.1,Nat.lt_of_lt_of_le hb.2.2.1 hs,hb.2.2.2⟩
 refine⟨(hk g (.inr rfl) h.lt).trans h.box,Qp k1 k2 _ _ _ h.tg,h.cg.up k1 k2 fun _ _ _ h=>h,Qp k1 k2 _ _ _ h.tn,h.cn.up k1 k2 fun _ _ _ h=>h,?_,fun b hb=>ho b (h.ob b hb) (OwnD.lt h.own b hb).2⟩
 have h1:=OwnP.keep (w':=w') h.own fun q hq=>hk q (.inl (h.ob q hq)) (OwnD.lt h.own q hq).2
 exact h1.imp fun x _ cs hx=>OpA.mon.up (fun b hb=>hk b (.inl hb.1.1) hb.2.1) (fun b hb=>⟨⟨ho b hb.1.1 hb.2.1,hb.1.2⟩,Nat.lt_of_lt_of_le hb.2.1 hs,hb.2.2⟩) hx
theorem TxB.grow (h:TxB w g okp v vo G N ops)(hb:Below w.heap.size w w'):TxB w' g okp v vo G N ops:=h.keep (fun b _ hl=>hb.block b hl) hb.size fun _ h _=>h
theorem TxB.rdG (h:TxB w g okp v vo G N ops):G.1.rd w w.heap.size (v 0).1 (v 0).2.1:=QQ h.tg (fun _ hb=>hb.2.2.1) (Below.refl _ _)
theorem TxB.slG (h:TxB w g okp v vo G N ops):SlP w w.heap.size 3 SpE (v 0).2.2 G.2:=h.cg.slp (fun _ hb=>hb.2.2.1) (Below.refl _ _)
theorem TxB.rdN (h:TxB w g okp v vo G N ops):N.1.rd w w.heap.size (v 1).1 (v 1).2.1:=QQ h.tn (fun _ hb=>hb.2.2.1) (Below.refl _ _)
theorem TxB.slN (h:TxB w g okp v vo G N ops):SlP w w.heap.size 3 SpE (v 1).2.2 N.2:=h.cn.slp (fun _ hb=>hb.2.2.1) (Below.refl _ _)
theorem TxB.opl (h:TxB w g okp v vo G N ops)(hl:ops.length<=Big):OpL w vo ops:=OwnD.opl h.own hl
theorem TxB.cells (h:TxB w g okp v vo G N ops):w.cell? ⟨g,0,none⟩=some (v 0).1/\w.cell? ⟨g,1,none⟩=some (v 0).2.1/\w.cell? ⟨g,2,none⟩=some (v 0).2.2/\w.cell? ⟨g,3,none⟩=some (v 1).1/\w.cell? ⟨g,4,none⟩=some (v 1).2.1/\w.cell? ⟨g,5,none⟩=some (v 1).2.2/\w.cell? ⟨g,6,none⟩=some vo:=by
 have hb:=h.box
 unfold Kr at hb
 exact⟨Qa (i:=0) hb,Qa (i:=1) hb,Qa (i:=2) hb,Qa (i:=3) hb,Qa (i:=4) hb,Qa (i:=5) hb,Qa (i:=6) hb⟩
theorem TxB.frz (h:TxB w g okp v vo G N ops)(o:Nat):w.frozen? ⟨g,o,none⟩=false:=Qb h.box
theorem zJe {e:TypeId}(h:w.heap[g]?=some (.cells (Kr v vo) e (0,0)))(a b c d:Value) :
  ((((w.setCell ⟨g,3,none⟩ a).setCell ⟨g,4,none⟩ b).setCell ⟨g,5,none⟩ c).setCell ⟨g,6,none⟩ d).heap[g]?=some (.cells (Kr (fun i=>if i=1 then (a,b,c) else v i) d) e (0,0)):=by
 have h1:=Qe (i:=3) h a
 have h2:=Qe (i:=4) h1 b
 have h3:=Qe (i:=5) h2 c
 have h4:=Qe (i:=6) h3 d
 rw[h4]
 simp[Kr]
theorem TxB.set (h:TxB w g okp v vo G N ops){vo' a b c:Value}{N':Kn}{ops':List Opr}(hg:w'.heap[g]?=w.heap[g]?)(hk:∀ b,b<w.heap.size->b≠g->vo.ownBlock≠some b->w'.heap[b]?=w.heap[b]?)(hs:w.heap.size<=w'.heap.size)
  (hv:vo'.ownBlock=vo.ownBlock∨∃ b,vo'.ownBlock=some b/\w.heap.size<=b) (hr:N'.1.rda w' (fun b=>w.heap.size<=b/\b<w'.heap.size/\vo'.ownBlock≠some b) a b) (hc:SlA w' (fun b=>w.heap.size<=b/\b<w'.heap.size/\vo'.ownBlock≠some b) 3 SpE c N'.2)
  (hown:OwnD w' (g+1) 65 4 OpA (fun b=>(okp b∨w.heap.size<=b)/\b≠g) vo' ops') :
  TxB ((((w'.setCell ⟨g,3,none⟩ a).setCell ⟨g,4,none⟩ b).setCell ⟨g,5,none⟩ c).setCell ⟨g,6,none⟩ vo') g (fun b=>okp b∨w.heap.size<=b) (fun i=>if i=1 then (a,b,c) else v i) vo' G N' ops':=by
 have hgl:=h.lt
 have hK:∀ k,k≠g->((((w'.setCell ⟨g,3,none⟩ a).setCell ⟨g,4,none⟩ b).setCell ⟨g,5,none⟩ c).setCell ⟨g,6,none⟩ vo').heap[k]?=w'.heap[k]?:=fun k hk=>(Below.heap_setCell _ _ _ _ hk).trans ((Below.heap_setCell _ _ _ _ hk).trans ((Below.heap_setCell _ _ _ _ hk).trans (Below.heap_setCell _ _ _ _ hk)))
 have hS:((((w'.setCell ⟨g,3,none⟩ a).setCell ⟨g,4,none⟩ b).setCell ⟨g,5,none⟩ c).setCell ⟨g,6,none⟩ vo').heap.size=w'.heap.size:=by simp[World.setCell]
 have hv1:∀ b,b<w.heap.size->vo.ownBlock≠some b->vo'.ownBlock≠some b:=fun b hb hn=>by
  rcases hv with e|⟨q,e,hq⟩
  ·rw[e];exact hn
  ·rw[e];intro e;cases e;omega
 have k1:∀ k,okGo w g vo okp k->((((w'.setCell ⟨g,3,none⟩ a).setCell ⟨g,4,none⟩ b).setCell ⟨g,5,none⟩ c).setCell ⟨g,6,none⟩ vo').heap[k]?=w.heap[k]?:=fun k hq=>(hK k hq.2.1).trans (hk k hq.2.2.1 hq.2.1 hq.2.2.2)
 have k2:∀ k,okGo w g vo okp k->okGo ((((w'.setCell ⟨g,3,none⟩ a).setCell ⟨g,4,none⟩ b).setCell ⟨g,5,none⟩ c).setCell ⟨g,6,none⟩ vo') g vo' (fun b=>okp b∨w.heap.size<=b) k:=fun k hq=>⟨.inl hq.1,hq.2.1,by rw[hS];exact Nat.lt_of_lt_of_le hq.2.2.1 hs,hv1 k hq.2.2.1 hq.2.2.2⟩
 have n1:∀ k,(w.heap.size<=k/\k<w'.heap.size/\vo'.ownBlock≠some k)->((((w'.setCell ⟨g,3,none⟩ a).setCell ⟨g,4,none⟩ b).setCell ⟨g,5,none⟩ c).setCell ⟨g,6,none⟩ vo').heap[k]?=w'.heap[k]?:=fun k hq=>hK k (by omega)
 have n2:∀ k,(w.heap.size<=k/\k<w'.heap.size/\vo'.ownBlock≠some k)->okGo ((((w'.setCell ⟨g,3,none⟩ a).setCell ⟨g,4,none⟩ b).setCell ⟨g,5,none⟩ c).setCell ⟨g,6,none⟩ vo') g vo' (fun b=>okp b∨w.heap.size<=b) k:=fun k hq=>⟨.inr hq.1,by omega,by rw[hS];exact hq.2.1,hq.2.2⟩
 refine⟨zJe (hg.trans h.box) a b c vo',?_,?_,?_,?_,?_,?_⟩
 ·simp only[Nat.zero_ne_one,if_false];exact Qp k1 k2 _ _ _ h.tg
 ·simp only[Nat.zero_ne_one,if_false];exact h.cg.up k1 k2 fun _ _ _ h=>h
 ·simp only[if_true];exact Qp n1 n2 _ _ _ hr
 ·simp only[if_true];exact hc.up n1 n2 fun _ _ _ h=>h
 ·have h1:=OwnP.keep (w':=((((w'.setCell ⟨g,3,none⟩ a).setCell ⟨g,4,none⟩ b).setCell ⟨g,5,none⟩ c).setCell ⟨g,6,none⟩ vo')) hown fun q hq=>hK q (by have:=(OwnD.lt hown q hq).1;omega)
  exact h1.imp fun x _ cs hx=>OpA.mon.up (fun k hk=>hK k hk.1.2) (fun k hk=>⟨hk.1,by rw[hS];exact hk.2.1,hk.2.2⟩) hx
 ·intro q hq
  rcases hv with e|⟨q',e,hq'⟩
  ·exact .inl (h.ob q (e▸hq))
  ·rw[e]at hq;cases hq;exact .inr hq'
end
end Go.Proofs.YtbcoelggdikipaaGreat
