/- What the laws need. No condition but those that each lemma states. -/
import Derived.Deep.Slices
import Derived.ProofKit
import Derived.SizedLaws
import Derived.Test.YtbcoelggdikipaaGreatProg
import Derived.Test.YtbcoelggdikipaaGreatRows
import Derived.Test.YtbcoelggdikipaaGreatUy7
import Derived.Test.YtbcoelggdikipaaGreatUy2
import Derived.Test.YtbcoelggdikipaaGreatUy6
import Derived.Test.YtbcoelggdikipaaGreatUy4
import Derived.Test.YtbcoelggdikipaaGreatUy1
set_option maxRecDepth 100000
set_option maxHeartbeats 8000000
set_option linter.unusedSimpArgs false
namespace Go.Proofs.YtbcoelggdikipaaGreat
open Go.RowKit
def T9:Tr:=.mk [⟨1,1,ByteArray.empty,0⟩] []
def C9:List Sp:=[⟨1,1,1⟩]
theorem Kh:(caR T9 C9&&caR (.mk [] []) [])=true:=by kernel_rfl
theorem jn9_T:jnT T9 (.mk [] []) C9 []=T9:=by
 unfold jnT;rw[Kh,if_pos rfl,joinT]
 have h1:entL C9 [] T9.es (Tr.mk [] []).es=T9.es:=by
  show entL C9 [] [⟨1,1,ByteArray.empty,0⟩] []=_
  rw[entL,entL];rfl
 have h2:joinK T9 (.mk [] [])=[]:=by simp[joinK,T9,Tr.ks,srtL,cmpL,Lib.compact,Lib.compactUpTo]
 rw[h1,h2];rfl
theorem jn9_C:jnC T9 (.mk [] []) C9 []=C9:=by
 unfold jnC;rw[Kh,if_pos rfl];kernel_rfl
theorem ZC (w:World):Calls Tryz.prog 8 #[] w fun e w'=>e=.returned (.bool true)/\Below w.heap.size w w':=by
 have HX:Hid (∀ W,Below (w.heap.size+4) ((((w.alloc (.cells #[.int .i64 1,.int .i64 1] 78)).alloc (.cells #[.int .i64 1,.int .i64 1,.string ByteArray.empty,.int .i64 0] 80)).alloc (.cells #[.int .i64 1,.int .i64 1,.int .i64 1] 45)).alloc (.cells #[.slice (some ⟨w.heap.size+1,0,none⟩) 1 1,.slice none 0 0,.slice (some ⟨w.heap.size+1+1,0,none⟩) 1 1] 29)) W->Below w.heap.size w W/\T9.rd W W.heap.size (.slice (some ⟨w.heap.size+1,0,none⟩) 1 1) (.slice none 0 0)/\SlP W W.heap.size 3 SpE (.slice (some ⟨w.heap.size+1+1,0,none⟩) 1 1) C9/\w.heap.size+4<=W.heap.size/\(W.cell? ⟨w.heap.size+3,0,none⟩=some (.slice (some ⟨w.heap.size+1,0,none⟩) 1 1)/\W.cell? ⟨w.heap.size+3,1,none⟩=some (.slice none 0 0)/\W.cell? ⟨w.heap.size+3,2,none⟩=some (.slice (some ⟨w.heap.size+1+1,0,none⟩) 1 1))):=fun W hW=>by
  have hs:w.heap.size+4<=W.heap.size:=by have:=hW.size;simpa using this
  have g1:W.heap[w.heap.size+1]?=some (.cells #[.int .i64 1,.int .i64 1,.string ByteArray.empty,.int .i64 0] 80 (0,0)):=(hW.block _ (by omega)).trans ((Qh (by simp<;>omega)).trans ((Qh (by simp)).trans (Qg (by simp))))
  have g2:W.heap[w.heap.size+1+1]?=some (.cells #[.int .i64 1,.int .i64 1,.int .i64 1] 45 (0,0)):=(hW.block _ (by omega)).trans ((Qh (by simp)).trans (Qg (by simp)))
  have g3:W.heap[w.heap.size+3]?=some (.cells #[.slice (some ⟨w.heap.size+1,0,none⟩) 1 1,.slice none 0 0,.slice (some ⟨w.heap.size+1+1,0,none⟩) 1 1] 29 (0,0)):=(hW.block _ (by omega)).trans (Qg (by simp))
  refine⟨(((((Below.refl _ w).alloc (Nat.le_refl _) _).alloc (by simp) _).alloc (by simp;omega) _).alloc (by simp;omega) _).trans (hW.mono (by omega)),?_,?_,hs,Qa (i:=0) g3,Qa (i:=1) g3,Qa (i:=2) g3⟩
  ·exact QC.2 ⟨SlA.one (x:=(⟨1,1,ByteArray.empty,0⟩:En)) (cs:=[.int .i64 1,.int .i64 1,.string ByteArray.empty,.int .i64 0]) ⟨rfl,⟨by decide,by decide⟩,⟨by decide,by decide⟩,⟨by decide,by decide⟩,by decide⟩ rfl g1 (by omega),SlP.nil⟩
  ·exact SlA.one (x:=(⟨1,1,1⟩:Sp)) (cs:=[.int .i64 1,.int .i64 1,.int .i64 1]) ⟨rfl,⟨by decide,by decide⟩,⟨by decide,by decide⟩,⟨by decide,by decide⟩⟩ rfl g2 (by omega)
 have hE:jnE T9 (.mk [] []) C9 []=0:=by unfold jnE;rw[Kh];rfl
 have hT:jnT T9 (.mk [] []) C9 []=T9:=jn9_T
 have hC:jnC T9 (.mk [] []) C9 []=C9:=jn9_C
 have HR:Hid (caR T9 C9=true):=by have:=Kh;rw[Bool.and_eq_true]at this;exact this.1
 have HZ:Hid (T9.sz<=4000/\C9.length<=20000):=by unfold Hid;decide
 go_enter Tryz.func8,Tryz.ntmps8
 go_wp2_with fail
 have h1:=HX.out _ (Below.refl _ _)
 refine (VL C9 [] T9 (.mk [] []) _ _ _ _ _ _ ((((w.alloc (.cells #[.int .i64 1,.int .i64 1] 78)).alloc (.cells #[.int .i64 1,.int .i64 1,.string ByteArray.empty,.int .i64 0] 80)).alloc (.cells #[.int .i64 1,.int .i64 1,.int .i64 1] 45)).alloc (.cells #[.slice (some ⟨w.heap.size+1,0,none⟩) 1 1,.slice none 0 0,.slice (some ⟨w.heap.size+1+1,0,none⟩) 1 1] 29)) h1.2.1 Xb h1.2.2.1 SlP.nil HZ.out.1 (by decide) HZ.out.2 (by decide)).mono ?_
 rw[hE,hT,hC]
 rintro e w1 ⟨ve,vk,vc,rfl,hrd,hsc,hb1⟩
 clear h1 hE hT hC
 generalize T9=T at *
 generalize C9=C at *
 obtain⟨Ae,ne,Ak,nk,rfl,rfl⟩:=Qt hrd
 obtain⟨Ac,nc,rfl⟩:=hsc.shape
 have hbk1:=hid (hb1.mono (show w.heap.size+4<=_ by simp))
 have HT:Hid (∀ w',Below w1.heap.size w1 w'->T.rd w' w'.heap.size (.slice Ae T.es.length ne) (.slice Ak T.ks.length nk)):=fun w' hb=>JM hrd (fun b hb=>hb.2) hb
 have HCt:Hid (∀ w',Below w1.heap.size w1 w'->SlP w' w'.heap.size 3 SpE (.slice Ac C.length nc) C):=fun w' hb=>hsc.slp (fun b hb=>hb.2) hb
 obtain⟨hB1,hr1,hc1,hs1,q0,q1,q2⟩:=HX.out w1 hbk1.out
 have hlt:w.heap.size+3<w1.heap.size:=by omega
 have hne:w.heap.size+3≠w1.heap.size:=by omega
 clear hrd hsc hb1 hr1 hc1
 go_wp2_with fail
 have hv1:=Zl (Below.refl _ (w1.alloc (.cells #[.slice Ae T.es.length ne,.slice Ak T.ks.length nk,.slice Ac C.length nc] 29)))
 have h2:=HX.out _ (hbk1.out.trans (hv1.mono hs1))
 have hSM:(trEq T T&&decide (C=C))=true:=by simp[trEq]
 refine (ZB T T C C _ _ _ _ _ _ _ (HT.out _ hv1) h2.2.1 (HCt.out _ hv1) h2.2.2.1).mono ?_
 rw[hSM]
 rintro e w2 ⟨rfl,hb2⟩
 have hbk2:=hid (hbk1.out.trans ((hv1.trans (hb2.mono (by simp))).mono hs1))
 obtain⟨hB2,hr2,hc2,hs2,q3,q4,q5⟩:=HX.out w2 hbk2.out
 clear h2 hv1 hSM hb2 q0 q1 q2
 go_wp2_with fail
 refine (QF T C _ _ _ w2 hr2 hc2 HZ.out.1 HZ.out.2).mono ?_
 rw[HR.out]
 rintro e w3 ⟨rfl,hb3⟩
 clear hr2 hc2
 go_wp2_with fail
 go_ret
 exact⟨rfl,hB2.trans (hb3.mono (by omega))⟩
def conT (t:Tr)(c:List Sp)(keys:List ByteArray):Tr:=if caR t c then .mk [] (kp (offK keys) t.ks) else .mk [] []
def conC (t:Tr)(c:List Sp):List Sp:=if caR t c then c else []
def conE (t:Tr)(c:List Sp):Int:=if caR t c then 0 else 1
theorem Jb (t:Tr)(c:List Sp)(keys:List ByteArray)(ve vk vc vl:Value)(w:World)(h:t.rd w w.heap.size ve vk)(hc:SlP w w.heap.size 3 SpE vc c)(hkk:SlP w w.heap.size 1 StE vl keys)(hN:t.sz<=4000)(hN':c.length<=20000) :
  Calls Tryz.prog 10 #[.agg #[ve,vk,vc],vl] w (RetCE w (conT t c keys) (conC t c) (conE t c)):=by
 have HC:Hid (∀ w',Below w.heap.size w w'->(t.rd w' w'.heap.size ve vk/\SlP w' w'.heap.size 3 SpE vc c)):=fun w' hb=>⟨Qj hb hb.size _ _ _ h,hc.imp hb hb.size fun _ _ _ h=>h⟩
 obtain⟨A3,n3,A4,n4,rfl,rfl⟩:=Ql h
 have HKS:Hid (∀ w',Below w.heap.size w w'->SlP w' w'.heap.size 1 StE vl keys):=fun w' hb=>hkk.imp hb hb.size fun _ _ _ h=>h
 obtain⟨A5,n5,rfl,_⟩:=hc
 obtain⟨Al,nl,rfl,_⟩:=hkk
 have hb0:Below w.heap.size w ((w.alloc (.cells #[.slice A3 t.es.length n3,.slice A4 t.ks.length n4,.slice A5 c.length n5] 29)).alloc (.cells #[.slice none 0 0,.slice none 0 0,.slice none 0 0] 29)):=((Below.refl _ w).alloc (Nat.le_refl _) _).alloc (by simp) _
 have HB0:=hid hb0
 have HX:Hid (∀ W,Below (w.heap.size+2) ((w.alloc (.cells #[.slice A3 t.es.length n3,.slice A4 t.ks.length n4,.slice A5 c.length n5] 29)).alloc (.cells #[.slice none 0 0,.slice none 0 0,.slice none 0 0] 29)) W->Below w.heap.size w W/\W.heap[w.heap.size+1]?=some (.cells #[.slice none 0 0,.slice none 0 0,.slice none 0 0] 29 (0,0))/\w.heap.size+2<=W.heap.size/\(W.cell? ⟨w.heap.size,0,none⟩=some (.slice A3 t.es.length n3)/\W.cell? ⟨w.heap.size,1,none⟩=some (.slice A4 t.ks.length n4)/\W.cell? ⟨w.heap.size,2,none⟩=some (.slice A5 c.length n5))):=fun W hW=>by
  have g0:W.heap[w.heap.size]?=some (.cells #[.slice A3 t.es.length n3,.slice A4 t.ks.length n4,.slice A5 c.length n5] 29 (0,0)):=(hW.block _ (by omega)).trans ((Qh (by simp)).trans (Qg rfl))
  exact⟨HB0.out.trans (hW.mono (by omega)),(hW.block _ (by omega)).trans (Qg (by simp)),by have:=hW.size;simpa using this,Qa (i:=0) g0,Qa (i:=1) g0,Qa (i:=2) g0⟩
 clear h hb0
 go_enter Tryz.func10,Tryz.ntmps10
 obtain⟨_,_,_,q0,q1,q2⟩:=HX.out _ (Below.refl _ _)
 go_wp2_with fail
 refine (QF t c _ _ _ _ (HC.out _ HB0.out).1 (HC.out _ HB0.out).2 hN hN').mono ?_
 clear q0 q1 q2
 cases hr:caR t c
 ·rintro e w1 ⟨rfl,hb1⟩
  have hX:=hb1.mono (show w.heap.size+2<=_ by simp)
  obtain⟨hB,g,hs,q0,q1,q2⟩:=HX.out _ hX
  have HG:=hid g
  have e1:conT t c keys=.mk [] []:=by unfold conT;rw[hr];rfl
  have e2:conC t c=[]:=by unfold conC;rw[hr];rfl
  have HE3:Hid (conE t c=1):=by unfold Hid conE;rw[hr];rfl
  have HE1:=hid e1
  have HE2:=hid e2
  have k0:w1.cell? ⟨w.heap.size+1,0,none⟩=some (.slice none 0 0):=Qa (i:=0) g
  have k1:w1.cell? ⟨w.heap.size+1,1,none⟩=some (.slice none 0 0):=Qa (i:=1) g
  have k2:w1.cell? ⟨w.heap.size+1,2,none⟩=some (.slice none 0 0):=Qa (i:=2) g
  have z0:=Qc (i:=0) g
  have z1:=Qc (i:=1) g
  have z2:=Qc (i:=2) g
  clear g hr hb1 hX e1 e2
  go_wp2_with fail
  obtain⟨r0,r1,r2,hK,hS⟩:=box3 HG.out (.slice none 0 0) (.slice none 0 0) (.slice none 0 0)
  refine bodyPost_ret (v:=.tuple #[.agg #[.slice none 0 0,.slice none 0 0,.slice none 0 0],.int .i64 1]) (by simp[results,Tryz.results10,go_sem,r0,r1,r2]) rfl ⟨_,_,_,by rw[HE3.out],by rw[HE1.out];exact Xo _ _,by rw[HE2.out];exact SlA.nil,((hB.setCell (by simp) _).setCell (by simp) _).setCell (by simp) _⟩
 ·rintro e w1 ⟨rfl,hb1⟩
  have hX:=hb1.mono (show w.heap.size+2<=_ by simp)
  have HX1:=hid hX
  obtain⟨hB,_,hs,q0,q1,q2⟩:=HX.out _ hX
  have e1:conT t c keys=.mk [] (kp (offK keys) t.ks):=by unfold conT;rw[hr];rfl
  have e2:conC t c=c:=by unfold conC;rw[hr];rfl
  have HE3:Hid (conE t c=0):=by unfold Hid conE;rw[hr];rfl
  have HE1:=hid e1
  have HE2:=hid e2
  have HTO:Hid (YM t keys=.mk [] (kp (offK keys) t.ks)):=by unfold Hid YM;rw[ZV hr];rfl
  have hcl:c.length<=Few:=by unfold Few;omega
  have hneA:w.heap.size+1≠w.heap.size:=by omega
  clear hb1 hX hr e1 e2
  go_upto_region 3 with (fail)
  go_region_held3 (fun w'=>w'.cell? ⟨w.heap.size,0,none⟩=some (.slice A3 t.es.length n3)/\w'.cell? ⟨w.heap.size,1,none⟩=some (.slice A4 t.ks.length n4)/\w'.cell? ⟨w.heap.size,2,none⟩=some (.slice A5 c.length n5))
   (first|go_keep|exact (HX.out _ hbk3.out).2.2.2|exact (HX.out _ hbk2.out).2.2.2)
   (first
       |(go_at_call 36;go_loud ((refine (VU t keys _ _ _ _ (HC.out _ (HX.out _ (HX1.out.trans (by go_grown))).1).1 (HKS.out _ (HX.out _ (HX1.out.trans (by go_grown))).1) (by omega)).mono ?_);rintro e w2 ⟨ve1,vk1,rfl,hrd1,hb⟩;rw[HTO.out]at hrd1;obtain⟨Av,nv,Aw,nw,rfl,rfl⟩:=Qt hrd1;have HR:=hid hrd1;have hbk2:Hid (Below (w.heap.size+2) ((w.alloc (.cells #[.slice A3 t.es.length n3,.slice A4 t.ks.length n4,.slice A5 c.length n5] 29)).alloc (.cells #[.slice none 0 0,.slice none 0 0,.slice none 0 0] 29)) w2):=hid ((HX1.out.trans (Below.trans (by go_grown) (hb.mono (by first|omega|(simp;done)|(simp;omega))))));clear hrd1 hb))
       |(go_at_call 37;go_loud ((refine (Ky c _ w2 (HC.out _ (HX.out _ hbk2.out).1).2 hcl).mono ?_);rintro e w3 ⟨v2,rfl,ho2,hb2⟩;obtain⟨A7,c7,hv7⟩:=ho2.shape;subst hv7;have HO2:=hid ho2;have hbk3:=hid (hbk2.out.trans (hb2.mono (HX.out _ hbk2.out).2.2.1));have HG2:=hid (HX.out _ hbk3.out).2.1;have k0:w3.cell? ⟨w.heap.size+1,0,none⟩=some (.slice none 0 0):=Qa (i:=0) HG2.out;have k1:w3.cell? ⟨w.heap.size+1,1,none⟩=some (.slice none 0 0):=Qa (i:=1) HG2.out;have k2:w3.cell? ⟨w.heap.size+1,2,none⟩=some (.slice none 0 0):=Qa (i:=2) HG2.out;have z0:=Qc (i:=0) HG2.out;have z1:=Qc (i:=1) HG2.out;have z2:=Qc (i:=2) HG2.out;have HB2:=hid hb2;clear ho2 hb2)))
  all_goals (
   go_wp2_with fail
   have hs3:w.heap.size+2<=w3.heap.size:=(HX.out _ hbk3.out).2.2.1
   have hs2:w.heap.size+2<=w2.heap.size:=(HX.out _ hbk2.out).2.2.1
   have hs23:=HB2.out.size
   obtain⟨r0,r1,r2,hK,hS⟩:=box3 HG2.out (.slice Av (Tr.mk [] (kp (offK keys) t.ks)).es.length nv) (.slice Aw (Tr.mk [] (kp (offK keys) t.ks)).ks.length nw) (.slice A7 c.length c7)
   have hBW:Below w.heap.size w (((w3.setCell ⟨w.heap.size+1,0,none⟩ (.slice Av (Tr.mk [] (kp (offK keys) t.ks)).es.length nv)).setCell ⟨w.heap.size+1,1,none⟩ (.slice Aw (Tr.mk [] (kp (offK keys) t.ks)).ks.length nw)).setCell ⟨w.heap.size+1,2,none⟩ (.slice A7 c.length c7)):=(((HX.out _ hbk3.out).1.setCell (by simp) _).setCell (by simp) _).setCell (by simp) _
   clear k0 k1 k2 z0 z1 z2
   generalize (((w3.setCell ⟨w.heap.size+1,0,none⟩ (.slice Av (Tr.mk [] (kp (offK keys) t.ks)).es.length nv)).setCell ⟨w.heap.size+1,1,none⟩ (.slice Aw (Tr.mk [] (kp (offK keys) t.ks)).ks.length nw)).setCell ⟨w.heap.size+1,2,none⟩ (.slice A7 c.length c7))=W at *
   refine bodyPost_ret (v:=.tuple #[.agg #[.slice Av (Tr.mk [] (kp (offK keys) t.ks)).es.length nv,.slice Aw (Tr.mk [] (kp (offK keys) t.ks)).ks.length nw,.slice A7 c.length c7],.int .i64 0]) (by simp[results,Tryz.results10,go_sem,r0,r1,r2]) rfl ⟨_,_,_,by rw[HE3.out],?_,?_,hBW⟩
   ·rw[HE1.out]
    exact Zi (fun b hb=>(hK b (by have:=hb.1;simp only[World.size_drew]at this;omega)).trans (HB2.out.block b hb.2)) (fun b hb=>⟨by have:=hb.1;simp only[World.size_drew]at this;omega,by have:=hb.2;omega⟩) _ _ _ HR.out
   ·rw[HE2.out]
    exact (HO2.out.sla (by unfold Big;omega)).up (fun b hb=>hK b (by have:=hb.1;omega)) (fun b hb=>⟨by have:=hb.1;omega,by have:=hb.2.1;omega⟩) (fun _ _ _ h=>h))
theorem Kj {keys:List ByteArray}{ks:List Kd}{k:ByteArray}{t:Tr}:(k,t)∈kp (offK keys) ks↔(k,t)∈ks/\(keys.any fun z=>decide (z=k))=true:=by
 unfold kp offK
 rw[List.mem_filter]
 have:(keys.any fun z=>decide (k=z))=keys.any fun z=>decide (z=k):=by congr 1;funext z;rw[Bool.eq_iff_iff];simp[eq_comm]
 simp only[this,Bool.not_not]
theorem qZ4 {t:Tr}(h:t.Ord)(keys:List ByteArray):(Tr.mk [] (kp (offK keys) t.ks)).Ord:=by
 obtain⟨es,ks⟩:=t
 obtain⟨_,h2,h3⟩:=QX.1 h
 exact QX.2 ⟨.nil,h2.filter _,fun k t hm=>h3 k t (Kj.1 hm).1⟩
theorem KT {t:Tr}(h:t.Ord)(keys:List ByteArray):Qp ((t.lvs []).filter (inF keys))=.mk [] (kp (offK keys) t.ks):=by
 have hl:=qQg t h
 refine qQh (qZ4 h keys) ⟨fun x hx=>hl.key x (List.mem_filter.1 hx).1,fun x hx y hy=>hl.one x (List.mem_filter.1 hx).1 y (List.mem_filter.1 hy).1⟩ fun x=>?_
 obtain⟨es,ks⟩:=t
 obtain⟨p,e⟩:=x
 rw[List.mem_filter]
 cases p with
 |nil=>rw[QO,QO];simp[inF]
 |cons k qs=>
  rw[Qq,Qq]
  constructor
  ·rintro⟨⟨u,hm,hu⟩,hf⟩
   exact⟨u,Kj.2 ⟨hm,hf⟩,hu⟩
  ·rintro⟨u,hm,hu⟩
   exact⟨⟨u,(Kj.1 hm).1,hu⟩,(Kj.1 hm).2⟩
theorem qZ5 {a:Tr}{ac:List Sp}(keys:List ByteArray)(h:([(a,ac)]:List Kn).all (fun x=>caR x.1 x.2)=false):∃ (T:Tr) (C:List Sp),Hid (conE a ac=1)/\Hid (conT a ac keys=T)/\Hid (conC a ac=C)/\Hid ((trEq T (.mk [] [])&&decide (C=[]))=true):=by
 have h1:caR a ac=false:=by simpa using h
 refine⟨_,_,?_,rfl,rfl,?_⟩
 ·unfold Hid conE;rw[h1];rfl
 ·unfold Hid conT conC;rw[h1];simp[trEq]
theorem qZv {a:Tr}{ac:List Sp}(keys:List ByteArray)(h:([(a,ac)]:List Kn).all (fun x=>caR x.1 x.2)=true):∃ (T R:Tr),Hid (conE a ac=0)/\Hid (conT a ac keys=T)/\Hid (conC a ac=ac)/\Hid (Qp ((a.lvs []).filter (inF keys))=T)/\Hid (Qp ((a.lvs []).filter fun x=>!inF keys x)=R):=by
 have h1:caR a ac=true:=by simpa using h
 refine⟨.mk [] (kp (offK keys) a.ks),_,?_,?_,?_,KT (Yt a 5 (ZV h1)) keys,rfl⟩
 ·unfold Hid conE;rw[h1];rfl
 ·unfold Hid conT;rw[h1];rfl
 ·unfold Hid conC;rw[h1];rfl
theorem VV (a:Tr)(ac:List Sp)(keys:List ByteArray)(w:World)(ve0 vk0 vc0 vl1:Value)(h0:a.rd w w.heap.size ve0 vk0)(hc0:SlP w w.heap.size 3 SpE vc0 ac)(h1:SlP w w.heap.size 1 StE vl1 keys) :
  Calls Tryz.prog 3 #[.agg #[ve0,vk0,vc0],vl1] w fun e w'=>e=.returned (.bool true)/\Below w.heap.size w w':=by
 have HC0:Hid (∀ w',Below w.heap.size w w'->a.rd w' w'.heap.size ve0 vk0):=fun w' hb=>Qj hb hb.size _ _ _ h0
 have HD0:Hid (∀ w',Below w.heap.size w w'->SlP w' w'.heap.size 3 SpE vc0 ac):=fun w' hb=>hc0.imp hb hb.size fun _ _ _ h=>h
 obtain⟨A0,n0,B0,m0,rfl,rfl⟩:=Ql h0
 obtain⟨D0,k0,rfl,_⟩:=hc0
 clear h0
 have HC1:Hid (∀ w',Below w.heap.size w w'->SlP w' w'.heap.size 1 StE vl1 keys):=fun w' hb=>h1.imp hb hb.size fun _ _ _ h=>h
 obtain⟨A1,n1,rfl,_⟩:=h1
 have HX0:Hid (∀ W,Below (w.heap.size+1) (w.alloc (.cells #[.slice A0 a.es.length n0,.slice B0 a.ks.length m0,.slice D0 ac.length k0] 29)) W->(Below w.heap.size w W/\w.heap.size+1<=(W).heap.size/\a.rd W (W).heap.size (.slice A0 a.es.length n0) (.slice B0 a.ks.length m0)/\SlP W (W).heap.size 3 SpE (.slice D0 ac.length k0) ac/\SlP W (W).heap.size 1 StE (.slice A1 keys.length n1) keys/\(W).cell? ⟨w.heap.size,0,none⟩=some (.slice A0 a.es.length n0)/\(W).cell? ⟨w.heap.size,1,none⟩=some (.slice B0 a.ks.length m0)/\(W).cell? ⟨w.heap.size,2,none⟩=some (.slice D0 ac.length k0))):=fun W hW=>by
  have g0:W.heap[w.heap.size]?=some (.cells #[.slice A0 a.es.length n0,.slice B0 a.ks.length m0,.slice D0 ac.length k0] 29 (0,0)):=(hW.block _ (by omega)).trans (Qg rfl)
  have hB:Below w.heap.size w W:=((Below.refl _ w).alloc (Nat.le_refl _) _).trans (hW.mono (by omega))
  exact⟨hB,by have:=hW.size;simpa using this,HC0.out _ hB,HD0.out _ hB,HC1.out _ hB,Qa (i:=0) g0,Qa (i:=1) g0,Qa (i:=2) g0⟩
 go_enter Tryz.func3,Tryz.ntmps3
 obtain⟨SM,HSM⟩:∃ q:Bool,Hid (([(a,ac)]:List Kn).all (fun x=>sml9 x.1 x.2 40)=q):=⟨_,rfl⟩
 obtain⟨RM,HRM⟩:∃ q:Bool,Hid (([(a,ac)]:List Kn).all (fun x=>caR x.1 x.2)=q):=⟨_,rfl⟩
 go_wp2_with fail
 obtain⟨hB,hs,rt0,rc0,rl1,c00,c01,c02⟩:=HX0.out _ (Below.refl _ _)
 refine (ZC _).mono ?_
 rintro e w1 ⟨rfl,hb⟩
 have hbk1:Hid (Below (w.heap.size+1) (w.alloc (.cells #[.slice A0 a.es.length n0,.slice B0 a.ks.length m0,.slice D0 ac.length k0] 29)) w1):=hid (hb.mono (by first|omega|(simp;done)|(simp;omega)))
 clear hb
 clear hB hs rt0 rc0 rl1 c00 c01 c02
 obtain⟨hB,hs,rt0,rc0,rl1,c00,c01,c02⟩:=HX0.out _ hbk1.out
 go_wp2_with fail
 have hsl_le:(w.heap.size+1)<=(w1).heap.size:=(by first|omega|(simp;done)|(simp;omega))
 clear hB hs rt0 rc0 rl1 c00 c01 c02
 obtain⟨hB,hs,rt0,rc0,rl1,c00,c01,c02⟩:=HX0.out _ (hbk1.out.alloc hsl_le (.cells #[.slice A0 a.es.length n0,.slice B0 a.ks.length m0,.slice D0 ac.length k0] 29))
 refine (JB [(a,ac)] _ _ (SlP.oneB (kn_at rt0 rc0) rfl _ rfl (by simp))).mono ?_
 rw[HSM.out]
 rintro e w2 ⟨rfl,hb⟩
 have hbk2:Hid (Below (w.heap.size+1) (w.alloc (.cells #[.slice A0 a.es.length n0,.slice B0 a.ks.length m0,.slice D0 ac.length k0] 29)) w2):=hid ((hbk1.out.alloc hsl_le (.cells #[.slice A0 a.es.length n0,.slice B0 a.ks.length m0,.slice D0 ac.length k0] 29)).trans (hb.mono (by first|omega|(simp;done)|(simp;omega))))
 clear hb
 clear hB hs rt0 rc0 rl1 c00 c01 c02
 obtain⟨hB,hs,rt0,rc0,rl1,c00,c01,c02⟩:=HX0.out _ hbk2.out
 cases SM
 ·skip
  go_wp2_with fail
  refine (ZC _).mono ?_
  rintro e w3 ⟨rfl,hb⟩
  have hbk3:Hid (Below (w.heap.size+1) (w.alloc (.cells #[.slice A0 a.es.length n0,.slice B0 a.ks.length m0,.slice D0 ac.length k0] 29)) w3):=hid (hbk2.out.trans (hb.mono (by first|omega|(simp;done)|(simp;omega))))
  clear hb
  clear hB hs rt0 rc0 rl1 c00 c01 c02
  obtain⟨hB,hs,rt0,rc0,rl1,c00,c01,c02⟩:=HX0.out _ hbk3.out
  go_wp2_with fail
  go_ret
  exact⟨rfl,hB⟩
 have z0:a.sz<=40/\ac.length<=40:=by have h:=HSM.out;simp only[List.all_cons,List.all_nil,Bool.and_true]at h;exact qZt h
 obtain⟨z1,z2⟩:=z0
 by_cases h20:20<keys.length
 ·have h20':decide ((20:Int)<(keys.length:Int))=true:=by simp;omega
  have h21:(20:Int)<(keys.length:Int):=by omega
  go_wp2_with fail
  refine (ZC _).mono ?_
  rintro e w3 ⟨rfl,hb⟩
  have hbk3:Hid (Below (w.heap.size+1) (w.alloc (.cells #[.slice A0 a.es.length n0,.slice B0 a.ks.length m0,.slice D0 ac.length k0] 29)) w3):=hid (hbk2.out.trans (hb.mono (by first|omega|(simp;done)|(simp;omega))))
  clear hb
  clear hB hs rt0 rc0 rl1 c00 c01 c02
  obtain⟨hB,hs,rt0,rc0,rl1,c00,c01,c02⟩:=HX0.out _ hbk3.out
  go_wp2_with fail
  go_ret
  exact⟨rfl,hB⟩
 ·have h20':decide ((20:Int)<(keys.length:Int))=false:=by simp;omega
  have h21:¬(20:Int)<(keys.length:Int):=by omega
  cases RM
  ·obtain⟨T,C,HJE,HJT,HJC,HSE⟩:=qZ5 keys HRM.out
   go_wp2_with fail
   refine (Jb a ac keys _ _ _ _ _ rt0 rc0 rl1 (by omega) (by omega)).mono ?_
   rw[HJE.out,HJT.out,HJC.out]
   rintro e w3 ⟨xe3,xk3,xc3,rfl,hrd3,hsl3,hb⟩
   obtain⟨A3x,n3x,B3x,m3x,rfl,rfl⟩:=Qt hrd3
   obtain⟨D3x,k3x,rfl⟩:=hsl3.shape
   have hbk3:Hid (Below (w.heap.size+1) (w.alloc (.cells #[.slice A0 a.es.length n0,.slice B0 a.ks.length m0,.slice D0 ac.length k0] 29)) w3):=hid (hbk2.out.trans (hb.mono (by first|omega|(simp;done)|(simp;omega))))
   clear hb
   clear hB hs rt0 rc0 rl1 c00 c01 c02
   obtain⟨hB,hs,rt0,rc0,rl1,c00,c01,c02⟩:=HX0.out _ hbk3.out
   have hlt382:w.heap.size<w3.heap.size:=by omega
   have hne382:w.heap.size≠w3.heap.size:=by omega
   have hnr382:w3.heap.size≠w.heap.size:=by omega
   have HX1:Hid (∀ W,Below (w3.heap.size+1) (w3.alloc (.cells #[.slice A3x T.es.length n3x,.slice B3x T.ks.length m3x,.slice D3x C.length k3x] 29)) W->(w3.heap.size+1<=(W).heap.size/\T.rd W (W).heap.size (.slice A3x T.es.length n3x) (.slice B3x T.ks.length m3x)/\SlP W (W).heap.size 3 SpE (.slice D3x C.length k3x) C/\(W).cell? ⟨w3.heap.size,0,none⟩=some (.slice A3x T.es.length n3x)/\(W).cell? ⟨w3.heap.size,1,none⟩=some (.slice B3x T.ks.length m3x)/\(W).cell? ⟨w3.heap.size,2,none⟩=some (.slice D3x C.length k3x)/\Below w.heap.size w W/\w.heap.size+1<=(W).heap.size/\a.rd W (W).heap.size (.slice A0 a.es.length n0) (.slice B0 a.ks.length m0)/\SlP W (W).heap.size 3 SpE (.slice D0 ac.length k0) ac/\SlP W (W).heap.size 1 StE (.slice A1 keys.length n1) keys/\(W).cell? ⟨w.heap.size,0,none⟩=some (.slice A0 a.es.length n0)/\(W).cell? ⟨w.heap.size,1,none⟩=some (.slice B0 a.ks.length m0)/\(W).cell? ⟨w.heap.size,2,none⟩=some (.slice D0 ac.length k0))):=fun W hW=>by
    have g0:=(hW.block w3.heap.size (by omega)).trans (Qg rfl)
    have hB:Below w3.heap.size w3 W:=((Below.refl _ w3).alloc (Nat.le_refl _) _).trans (hW.mono (by omega))
    exact⟨by have:=hW.size;simpa using this,JM hrd3 (fun b hb=>hb.2) hB,hsl3.slp (fun b hb=>hb.2) hB,Qa (i:=0) g0,Qa (i:=1) g0,Qa (i:=2) g0,HX0.out W (hbk3.out.trans (hB.mono (by omega)))⟩
   clear hrd3 hsl3
   go_wp2_with fail
   clear hB hs rt0 rc0 rl1 c00 c01 c02
   obtain⟨hs_x,rt_x,rc_x,c0_x,c1_x,c2_x,hB,hs,rt0,rc0,rl1,c00,c01,c02⟩:=HX1.out _ (Below.refl _ _)
   have hsl_le:(w3.heap.size+1)<=((w3.alloc (.cells #[.slice A3x T.es.length n3x,.slice B3x T.ks.length m3x,.slice D3x C.length k3x] 29))).heap.size:=(by first|omega|(simp;done)|(simp;omega))
   clear hs_x rt_x rc_x c0_x c1_x c2_x hB hs rt0 rc0 rl1 c00 c01 c02
   obtain⟨hs_x,rt_x,rc_x,c0_x,c1_x,c2_x,hB,hs,rt0,rc0,rl1,c00,c01,c02⟩:=HX1.out _ ((Below.refl _ _).alloc hsl_le (.cells #[.slice A0 a.es.length n0,.slice B0 a.ks.length m0,.slice D0 ac.length k0] 29))
   refine (YJ [(a,ac)] _ _ (SlP.oneB (kn_at rt0 rc0) rfl _ (by simp) (by simp)) (fun x hx=>by simp at hx;subst hx;exact⟨by simp only;omega,by simp only;omega⟩)).mono ?_
   rw[HRM.out]
   rintro e w4 ⟨rfl,hb⟩
   have hbk4:Hid (Below (w3.heap.size+1) (w3.alloc (.cells #[.slice A3x T.es.length n3x,.slice B3x T.ks.length m3x,.slice D3x C.length k3x] 29)) w4):=hid (((Below.refl _ _).alloc hsl_le (.cells #[.slice A0 a.es.length n0,.slice B0 a.ks.length m0,.slice D0 ac.length k0] 29)).trans (hb.mono (by first|omega|(simp;done)|(simp;omega))))
   clear hb
   clear hs_x rt_x rc_x c0_x c1_x c2_x hB hs rt0 rc0 rl1 c00 c01 c02
   obtain⟨hs_x,rt_x,rc_x,c0_x,c1_x,c2_x,hB,hs,rt0,rc0,rl1,c00,c01,c02⟩:=HX1.out _ hbk4.out
   go_wp2_with fail
   refine (ZB T (.mk [] []) C [] _ _ _ _ _ _ _ rt_x Xb rc_x SlP.nil).mono ?_
   rw[HSE.out]
   rintro e w5 ⟨rfl,hb⟩
   have hbk5:Hid (Below (w3.heap.size+1) (w3.alloc (.cells #[.slice A3x T.es.length n3x,.slice B3x T.ks.length m3x,.slice D3x C.length k3x] 29)) w5):=hid (hbk4.out.trans (hb.mono (by first|omega|(simp;done)|(simp;omega))))
   clear hb
   clear hs_x rt_x rc_x c0_x c1_x c2_x hB hs rt0 rc0 rl1 c00 c01 c02
   obtain⟨hs_x,rt_x,rc_x,c0_x,c1_x,c2_x,hB,hs,rt0,rc0,rl1,c00,c01,c02⟩:=HX1.out _ hbk5.out
   go_wp2_with fail
   go_ret
   exact⟨rfl,hB⟩
  ·obtain⟨T,R,HJE,HJT,HJC,HBL,HBR⟩:=qZv keys HRM.out
   go_wp2_with fail
   refine (Jb a ac keys _ _ _ _ _ rt0 rc0 rl1 (by omega) (by omega)).mono ?_
   rw[HJE.out,HJT.out,HJC.out]
   rintro e w3 ⟨xe3,xk3,xc3,rfl,hrd3,hsl3,hb⟩
   obtain⟨A3x,n3x,B3x,m3x,rfl,rfl⟩:=Qt hrd3
   obtain⟨D3x,k3x,rfl⟩:=hsl3.shape
   have hbk3:Hid (Below (w.heap.size+1) (w.alloc (.cells #[.slice A0 a.es.length n0,.slice B0 a.ks.length m0,.slice D0 ac.length k0] 29)) w3):=hid (hbk2.out.trans (hb.mono (by first|omega|(simp;done)|(simp;omega))))
   clear hb
   clear hB hs rt0 rc0 rl1 c00 c01 c02
   obtain⟨hB,hs,rt0,rc0,rl1,c00,c01,c02⟩:=HX0.out _ hbk3.out
   have hlt382:w.heap.size<w3.heap.size:=by omega
   have hne382:w.heap.size≠w3.heap.size:=by omega
   have hnr382:w3.heap.size≠w.heap.size:=by omega
   have HX1:Hid (∀ W,Below (w3.heap.size+1) (w3.alloc (.cells #[.slice A3x T.es.length n3x,.slice B3x T.ks.length m3x,.slice D3x ac.length k3x] 29)) W->(w3.heap.size+1<=(W).heap.size/\T.rd W (W).heap.size (.slice A3x T.es.length n3x) (.slice B3x T.ks.length m3x)/\SlP W (W).heap.size 3 SpE (.slice D3x ac.length k3x) ac/\(W).cell? ⟨w3.heap.size,0,none⟩=some (.slice A3x T.es.length n3x)/\(W).cell? ⟨w3.heap.size,1,none⟩=some (.slice B3x T.ks.length m3x)/\(W).cell? ⟨w3.heap.size,2,none⟩=some (.slice D3x ac.length k3x)/\Below w.heap.size w W/\w.heap.size+1<=(W).heap.size/\a.rd W (W).heap.size (.slice A0 a.es.length n0) (.slice B0 a.ks.length m0)/\SlP W (W).heap.size 3 SpE (.slice D0 ac.length k0) ac/\SlP W (W).heap.size 1 StE (.slice A1 keys.length n1) keys/\(W).cell? ⟨w.heap.size,0,none⟩=some (.slice A0 a.es.length n0)/\(W).cell? ⟨w.heap.size,1,none⟩=some (.slice B0 a.ks.length m0)/\(W).cell? ⟨w.heap.size,2,none⟩=some (.slice D0 ac.length k0))):=fun W hW=>by
    have g0:=(hW.block w3.heap.size (by omega)).trans (Qg rfl)
    have hB:Below w3.heap.size w3 W:=((Below.refl _ w3).alloc (Nat.le_refl _) _).trans (hW.mono (by omega))
    exact⟨by have:=hW.size;simpa using this,JM hrd3 (fun b hb=>hb.2) hB,hsl3.slp (fun b hb=>hb.2) hB,Qa (i:=0) g0,Qa (i:=1) g0,Qa (i:=2) g0,HX0.out W (hbk3.out.trans (hB.mono (by omega)))⟩
   clear hrd3 hsl3
   go_wp2_with fail
   clear hB hs rt0 rc0 rl1 c00 c01 c02
   obtain⟨hs_x,rt_x,rc_x,c0_x,c1_x,c2_x,hB,hs,rt0,rc0,rl1,c00,c01,c02⟩:=HX1.out _ (Below.refl _ _)
   have hsl_le:(w3.heap.size+1)<=((w3.alloc (.cells #[.slice A3x T.es.length n3x,.slice B3x T.ks.length m3x,.slice D3x ac.length k3x] 29))).heap.size:=(by first|omega|(simp;done)|(simp;omega))
   clear hs_x rt_x rc_x c0_x c1_x c2_x hB hs rt0 rc0 rl1 c00 c01 c02
   obtain⟨hs_x,rt_x,rc_x,c0_x,c1_x,c2_x,hB,hs,rt0,rc0,rl1,c00,c01,c02⟩:=HX1.out _ ((Below.refl _ _).alloc hsl_le (.cells #[.slice A0 a.es.length n0,.slice B0 a.ks.length m0,.slice D0 ac.length k0] 29))
   refine (YJ [(a,ac)] _ _ (SlP.oneB (kn_at rt0 rc0) rfl _ (by simp) (by simp)) (fun x hx=>by simp at hx;subst hx;exact⟨by simp only;omega,by simp only;omega⟩)).mono ?_
   rw[HRM.out]
   rintro e w4 ⟨rfl,hb⟩
   have hbk4:Hid (Below (w3.heap.size+1) (w3.alloc (.cells #[.slice A3x T.es.length n3x,.slice B3x T.ks.length m3x,.slice D3x ac.length k3x] 29)) w4):=hid (((Below.refl _ _).alloc hsl_le (.cells #[.slice A0 a.es.length n0,.slice B0 a.ks.length m0,.slice D0 ac.length k0] 29)).trans (hb.mono (by first|omega|(simp;done)|(simp;omega))))
   clear hb
   clear hs_x rt_x rc_x c0_x c1_x c2_x hB hs rt0 rc0 rl1 c00 c01 c02
   obtain⟨hs_x,rt_x,rc_x,c0_x,c1_x,c2_x,hB,hs,rt0,rc0,rl1,c00,c01,c02⟩:=HX1.out _ hbk4.out
   go_wp2_with fail
   refine (JF a keys _ _ _ _ rt0 rl1 (by omega) (by have:=lvs_len a [];omega)).mono ?_
   rw[HBL.out,HBR.out]
   rintro e w5 ⟨xe5,xk5,ye5,yk5,rfl,hrd5,hrf5,hb⟩
   obtain⟨A5x,n5x,B5x,m5x,rfl,rfl⟩:=Qt hrd5
   obtain⟨A5y,n5y,B5y,m5y,rfl,rfl⟩:=Qt hrf5
   have hbk5:Hid (Below (w3.heap.size+1) (w3.alloc (.cells #[.slice A3x T.es.length n3x,.slice B3x T.ks.length m3x,.slice D3x ac.length k3x] 29)) w5):=hid (hbk4.out.trans (hb.mono (by first|omega|(simp;done)|(simp;omega))))
   clear hb
   clear hs_x rt_x rc_x c0_x c1_x c2_x hB hs rt0 rc0 rl1 c00 c01 c02
   obtain⟨hs_x,rt_x,rc_x,c0_x,c1_x,c2_x,hB,hs,rt0,rc0,rl1,c00,c01,c02⟩:=HX1.out _ hbk5.out
   have hlt582:w.heap.size<w5.heap.size:=by omega
   have hne582:w.heap.size≠w5.heap.size:=by omega
   have hnr582:w5.heap.size≠w.heap.size:=by omega
   have hlt5527:w3.heap.size<w5.heap.size:=by omega
   have hne5527:w3.heap.size≠w5.heap.size:=by omega
   have hnr5527:w5.heap.size≠w3.heap.size:=by omega
   have HX2:Hid (∀ W,Below (w5.heap.size+2) ((w5.alloc (.cells #[.slice A5x T.es.length n5x,.slice B5x T.ks.length m5x] 25)).alloc (.cells #[.slice A5y R.es.length n5y,.slice B5y R.ks.length m5y] 25)) W->(w5.heap.size+2<=(W).heap.size/\T.rd W (W).heap.size (.slice A5x T.es.length n5x) (.slice B5x T.ks.length m5x)/\(W).cell? ⟨w5.heap.size,0,none⟩=some (.slice A5x T.es.length n5x)/\(W).cell? ⟨w5.heap.size,1,none⟩=some (.slice B5x T.ks.length m5x)/\w3.heap.size+1<=(W).heap.size/\T.rd W (W).heap.size (.slice A3x T.es.length n3x) (.slice B3x T.ks.length m3x)/\SlP W (W).heap.size 3 SpE (.slice D3x ac.length k3x) ac/\(W).cell? ⟨w3.heap.size,0,none⟩=some (.slice A3x T.es.length n3x)/\(W).cell? ⟨w3.heap.size,1,none⟩=some (.slice B3x T.ks.length m3x)/\(W).cell? ⟨w3.heap.size,2,none⟩=some (.slice D3x ac.length k3x)/\Below w.heap.size w W/\w.heap.size+1<=(W).heap.size/\a.rd W (W).heap.size (.slice A0 a.es.length n0) (.slice B0 a.ks.length m0)/\SlP W (W).heap.size 3 SpE (.slice D0 ac.length k0) ac/\SlP W (W).heap.size 1 StE (.slice A1 keys.length n1) keys/\(W).cell? ⟨w.heap.size,0,none⟩=some (.slice A0 a.es.length n0)/\(W).cell? ⟨w.heap.size,1,none⟩=some (.slice B0 a.ks.length m0)/\(W).cell? ⟨w.heap.size,2,none⟩=some (.slice D0 ac.length k0))):=fun W hW=>by
    have g0:=(hW.block w5.heap.size (by omega)).trans ((Qh (by simp)).trans (Qg rfl))
    have hB:Below w5.heap.size w5 W:=(((Below.refl _ w5).alloc (Nat.le_refl _) _).alloc (by simp) _).trans (hW.mono (by omega))
    exact⟨by have:=hW.size;simpa using this,JM hrd5 (fun b hb=>hb.2) hB,Qa (i:=0) g0,Qa (i:=1) g0,HX1.out W (hbk5.out.trans (hB.mono (by omega)))⟩
   clear hrd5 hrf5
   go_wp2_with fail
   clear hs_x rt_x rc_x c0_x c1_x c2_x hB hs rt0 rc0 rl1 c00 c01 c02
   obtain⟨hs_t,rt_t,c0_t,c1_t,hs_x,rt_x,rc_x,c0_x,c1_x,c2_x,hB,hs,rt0,rc0,rl1,c00,c01,c02⟩:=HX2.out _ (Below.refl _ _)
   refine (ZB T T ac ac _ _ _ _ _ _ _ rt_x rt_t rc_x rc0).mono ?_
   rw[show (trEq T T&&decide (ac=ac))=true from (by simp[trEq])]
   rintro e w6 ⟨rfl,hb⟩
   have hbk6:Hid (Below (w5.heap.size+2) ((w5.alloc (.cells #[.slice A5x T.es.length n5x,.slice B5x T.ks.length m5x] 25)).alloc (.cells #[.slice A5y R.es.length n5y,.slice B5y R.ks.length m5y] 25)) w6):=hid (hb.mono (by first|omega|(simp;done)|(simp;omega)))
   clear hb
   clear hs_t rt_t c0_t c1_t hs_x rt_x rc_x c0_x c1_x c2_x hB hs rt0 rc0 rl1 c00 c01 c02
   obtain⟨hs_t,rt_t,c0_t,c1_t,hs_x,rt_x,rc_x,c0_x,c1_x,c2_x,hB,hs,rt0,rc0,rl1,c00,c01,c02⟩:=HX2.out _ hbk6.out
   go_wp2_with fail
   go_ret
   exact⟨rfl,hB⟩
end Go.Proofs.YtbcoelggdikipaaGreat
namespace Go.Proofs.YtbcoelggdikipaaGreat
open Go.ChangeShapes Go.WideShapes Go.ChangeAt Go.RowKit
def Wt {H:Type}(P:Program)(t:TypeId)(d:DataW H):Prop:=∀ m∈d.weights P t,m<=reachBytes
section
variable {H:Type}{enc:TypeId×Value->H}{w:World}
theorem Wt.field {P:Program}{t:TypeId}{fs:Array Field}{parts:List (DataW H)}(hu:P.underlying t=some (.struct fs))(h:Wt P t (.agg parts)){i:Nat}{f:Field}{d:DataW H}(hf:fs[i]?=some f)(hd:parts[i]?=some d):Wt P f.type d:=fun m hm=>by
 refine h m ?_
 unfold DataW.weights
 rw[hu]
 exact DataW.weights_mem_each (j:=i) (t:=f.type) (d:=d) (by simp[hf]) hd m hm
theorem Wt.all {P:Program}{e:TypeId}:∀ {ds:List (DataW H)}{d:DataW H},d∈ds->∀ m∈d.weights P e,m∈DataW.weightsAll P e ds
 |x :: ds,d,hd,m,hm=>by
  rw[DataW.weightsAll]
  rcases List.mem_cons.1 hd with rfl|hd
  ·exact List.mem_append_left _ hm
  ·exact List.mem_append_right _ (Wt.all hd m hm)
theorem Wt.elem {P:Program}{t e:TypeId}{elems spare:List (DataW H)}(hu:P.underlying t=some (.slice e))(h:Wt P t (.slice elems spare)):(elems.length+spare.length)*P.bytesOf e<=reachBytes/\∀ d∈elems,Wt P e d:=by
 unfold Wt at h
 unfold DataW.weights at h
 rw[hu]at h
 refine⟨h _ (by simp),fun d hd m hm=>h m ?_⟩
 exact List.mem_cons_of_mem _ (List.mem_append_left _ (Wt.all hd m hm))
theorem Y9 {n:Int}(h:(Lit.int .i64 n).wf=true):I64 n:=by
 have h1:IntKind.i64.min=-9223372036854775808:=rfl
 have h2:IntKind.i64.max=9223372036854775807:=rfl
 simp only[Lit.wf,Bool.and_eq_true,decide_eq_true_eq]at h
 unfold I64;omega
theorem Yl {α:Type}{E:α->List Value->Prop}{t e:TypeId}{sz bytes fuel:Nat}{cs:List Value}{x:DataW H×List MemPlace}(hu:Tryz.prog.underlying t=some (.slice e))(hC:Tryz.prog.cellsOf e=sz)(hsz:0<sz)(hB:Tryz.prog.bytesOf e=bytes)(hb:0<bytes)
  (h:DataW.trod enc Tryz.prog w 0 (fun _=>true) true fuel t cs=some x) (hw:Wt Tryz.prog t x.1)
  (hel:∀ n cs y,n<fuel->DataW.trod enc Tryz.prog w 0 (fun _=>true) true n e cs=some y->Wt Tryz.prog e y.1->∃ a,E a cs) :
  ∃ v xs,cs=[v]/\SlP w w.heap.size sz E v xs:=by
 rcases DataW.trod_slice hu h with⟨rfl,rfl⟩|⟨a,len,cap,elems,rest,n,rfl,rfl,rfl,_,hl,hm,hlen,he,hs,_⟩
 ·exact⟨_,[],rfl,SlP.nil⟩
 ·obtain⟨hr,hwe⟩:=Wt.elem hu hw
  rw[hB,List.length_map,List.length_map]at hr
  have hrl:=(hs rfl).1
  have hcap:cap<=Big:=by
   have h1:(elems.length+rest.length)*1<=(elems.length+rest.length)*bytes:=Nat.mul_le_mul_left _ hb
   unfold reachBytes at hr;unfold Big;omega
  have key:∀ i,i<len->∃ (x:α) (c:List Value),E x c/\c.length=sz/\∀ j,j<sz->w.cell? (a.add (i*sz+j))=c[j]?:=fun i hi=>by
   have h1:=he i hi
   have h2:elems[i]?=some elems[i]:=List.getElem?_eq_getElem (by omega)
   rw[h2]at h1
   obtain⟨c,h3,h4⟩:=Option.bind_eq_some_iff.1 h1
   obtain⟨_,h5,h6⟩:=World.cells?_some h3
   obtain⟨x,hx⟩:=hel n c elems[i] (Nat.lt_succ_self n) h4 (hwe _ (List.mem_map.2 ⟨elems[i],List.getElem_mem _,rfl⟩))
   rw[hC]at h5 h6
   exact⟨x,c,hx,h5,fun j hj=>by rw[←Go.Deep.add_add];exact h6 j hj⟩
  rcases Nat.eq_zero_or_pos len with h0|h0
  ·subst h0
   exact⟨_,[],rfl,⟨some a,cap,rfl,Nat.zero_le _,Nat.zero_le _,fun h=>absurd rfl h⟩⟩
  ·obtain⟨x0,c0,_,hc0,hcell0⟩:=key 0 h0
   have hv0:=hcell0 0 hsz
   rw[List.getElem?_eq_getElem (by omega)]at hv0
   obtain⟨b,off,spot⟩:=a
   have hspot:spot=none:=by simpa[Addr.add] using World.cell?_spot hv0
   subst hspot
   have hbl:b<w.heap.size:=by
    have:=World.block_lt_of_cell? w _ hv0
    simpa[Addr.add] using this
   classical
   refine⟨_,(List.range len).map fun i=>if hi:i<len then Classical.choose (key i hi) else x0,rfl,some ⟨b,off,none⟩,cap,by simp,by simp;omega,by simp;omega,fun _=>⟨b,off,rfl,hbl,fun j x hx=>?_⟩⟩
   have hj:j<len:=by have:=(List.getElem?_eq_some_iff.1 hx).1;simpa using this
   rw[List.getElem?_map,List.getElem?_range hj]at hx
   simp only[Option.map_some,dif_pos hj,Option.some.injEq]at hx
   obtain⟨c,h1,h2,h3⟩:=Classical.choose_spec (key j hj)
   rw[hx]at h1
   refine⟨c,h1,h2,fun i u hi=>?_⟩
   have hlt:i<sz:=by have:=(List.getElem?_eq_some_iff.1 hi).1;omega
   have:=h3 i hlt
   rw[hi]at this
   rw[←this]
   congr 1
   simp[Addr.add,Nat.add_assoc]
theorem Kk:Tryz.prog.cellsOf 78=2:=by kernel_rfl
theorem Xa:Tryz.prog.cellsOf 80=4:=by kernel_rfl
theorem YN:Tryz.prog.cellsOf 25=2:=by kernel_rfl
theorem Kl:Tryz.prog.cellsOf 96=3:=by kernel_rfl
theorem QJ:Tryz.prog.cellsOf 9=1/\Tryz.prog.cellsOf 3=1/\Tryz.prog.cellsOf 2=1/\Tryz.prog.cellsOf 22=1/\Tryz.prog.cellsOf 23=1:=by refine⟨?_,?_,?_,?_,?_⟩<;>kernel_rfl
theorem KU:Tryz.prog.bytesOf 80=40:=by kernel_rfl
theorem qQw:Tryz.prog.bytesOf 96=64:=by kernel_rfl
theorem qQx {fuel:Nat}{cs:List Value}{x:DataW H×List MemPlace}(h:DataW.trod enc Tryz.prog w 0 (fun _=>true) true fuel 78 cs=some x):∃ d:Dt,DtE d cs:=by
 obtain⟨xs,n,rfl,rfl,hl,hx,hf⟩:=DataW.trod_struct Tryz.underlying78 h
 rw[Kk]at hl
 match cs,hl with
 |[c0,c1],_=>
  match xs,hx with
  |[y0,y1],_=>
   have f0:DataW.trod enc Tryz.prog w 0 (fun _=>true) true n 3 (([c0,c1].drop 0).take (Tryz.prog.cellsOf 3))=some y0:=hf 0 _ rfl
   rw[QJ.2.1]at f0
   have f1:DataW.trod enc Tryz.prog w 0 (fun _=>true) true n 2 (([c0,c1].drop 1).take (Tryz.prog.cellsOf 2))=some y1:=hf 1 _ rfl
   rw[QJ.2.2.1]at f1
   obtain⟨a,e0,_,w0⟩:=DataW.trod_int Tryz.underlying3 (show DataW.trod enc Tryz.prog w 0 (fun _=>true) true n 3 [c0]=some y0 from f0)
   obtain⟨b,e1,_,w1⟩:=DataW.trod_int Tryz.underlying2 (show DataW.trod enc Tryz.prog w 0 (fun _=>true) true n 2 [c1]=some y1 from f1)
   simp at e0 e1
   subst e0;subst e1
   exact⟨⟨a,b⟩,rfl,Y9 w0,Y9 w1⟩
theorem KV {fuel:Nat}{cs:List Value}{x:DataW H×List MemPlace}(h:DataW.trod enc Tryz.prog w 0 (fun _=>true) true fuel 80 cs=some x)(hw:Wt Tryz.prog 80 x.1):∃ e:En,EnE e cs:=by
 obtain⟨xs,n,rfl,rfl,hl,hx,hf⟩:=DataW.trod_struct Tryz.underlying80 h
 rw[Xa]at hl
 match cs,hl with
 |[c0,c1,c2,c3],_=>
  match xs,hx with
  |[y0,y1,y2],_=>
   have f0:DataW.trod enc Tryz.prog w 0 (fun _=>true) true n 78 (([c0,c1,c2,c3].drop 0).take (Tryz.prog.cellsOf 78))=some y0:=hf 0 _ rfl
   rw[Kk]at f0
   have f1:DataW.trod enc Tryz.prog w 0 (fun _=>true) true n 9 (([c0,c1,c2,c3].drop 2).take (Tryz.prog.cellsOf 9))=some y1:=hf 1 _ rfl
   rw[QJ.1]at f1
   have f2:DataW.trod enc Tryz.prog w 0 (fun _=>true) true n 2 (([c0,c1,c2,c3].drop 3).take (Tryz.prog.cellsOf 2))=some y2:=hf 2 _ rfl
   rw[QJ.2.2.1]at f2
   obtain⟨d,ed,od⟩:=qQx (show DataW.trod enc Tryz.prog w 0 (fun _=>true) true n 78 [c0,c1]=some y0 from f0)
   obtain⟨s,e1,hy1,_⟩:=DataW.trod_string Tryz.underlying9 (show DataW.trod enc Tryz.prog w 0 (fun _=>true) true n 9 [c2]=some y1 from f1)
   obtain⟨b,e2,_,w2⟩:=DataW.trod_int Tryz.underlying2 (show DataW.trod enc Tryz.prog w 0 (fun _=>true) true n 2 [c3]=some y2 from f2)
   have hs:s.size<=Big:=by
    have:=Wt.field Tryz.underlying80 hw (i:=1) (d:=y1.1) rfl rfl s.size (by rw[hy1];simp[DataW.weights])
    unfold reachBytes at this;unfold Big;omega
   simp at ed e1 e2
   obtain⟨rfl,rfl⟩:=ed
   subst e1;subst e2
   exact⟨⟨d.dc,d.n,s,b⟩,rfl,od.dc,od.n,Y9 w2,hs⟩
theorem VW:∀ (fuel:Nat) (cs:List Value) (x:DataW H×List MemPlace),DataW.trod enc Tryz.prog w 0 (fun _=>true) true fuel 25 cs=some x->Wt Tryz.prog 25 x.1->∃ t ve vk,cs=[ve,vk]/\Tr.rd w w.heap.size t ve vk:=by
 intro fuel
 induction fuel using Nat.strongRecOn with
 |ind fuel ih=>
 intro cs x h hw
 obtain⟨xs,n,rfl,rfl,hl,hx,hf⟩:=DataW.trod_struct Tryz.underlying25 h
 rw[YN]at hl
 match cs,hl with
 |[c0,c1],_=>
  match xs,hx with
  |[y0,y1],_=>
   have f0:DataW.trod enc Tryz.prog w 0 (fun _=>true) true n 22 (([c0,c1].drop 0).take (Tryz.prog.cellsOf 22))=some y0:=hf 0 _ rfl
   rw[QJ.2.2.2.1]at f0
   have f1:DataW.trod enc Tryz.prog w 0 (fun _=>true) true n 23 (([c0,c1].drop 1).take (Tryz.prog.cellsOf 23))=some y1:=hf 1 _ rfl
   rw[QJ.2.2.2.2]at f1
   obtain⟨v0,es,e0,h0⟩:=Yl (E:=EnE) Tryz.underlying22 Xa (by decide) KU (by decide) (show DataW.trod enc Tryz.prog w 0 (fun _=>true) true n 22 [c0]=some y0 from f0) (Wt.field Tryz.underlying25 hw (i:=0) rfl rfl)
    (fun m cs y _ hy hwy=>KV hy hwy)
   obtain⟨v1,ks,e1,h1⟩:=Yl (E:=KdE w w.heap.size) Tryz.underlying23 Kl (by decide) qQw (by decide) (show DataW.trod enc Tryz.prog w 0 (fun _=>true) true n 23 [c1]=some y1 from f1) (Wt.field Tryz.underlying25 hw (i:=1) rfl rfl)
    (fun m cs y hm hy hwy=>by
     obtain⟨zs,k,rfl,rfl,hl,hz,hg⟩:=DataW.trod_struct Tryz.underlying96 hy
     rw[Kl]at hl
     match cs,hl with
     |[d0,d1,d2],_=>
      match zs,hz with
      |[z0,z1],_=>
       have g0:DataW.trod enc Tryz.prog w 0 (fun _=>true) true k 9 (([d0,d1,d2].drop 0).take (Tryz.prog.cellsOf 9))=some z0:=hg 0 _ rfl
       rw[QJ.1]at g0
       have g1:DataW.trod enc Tryz.prog w 0 (fun _=>true) true k 25 (([d0,d1,d2].drop 1).take (Tryz.prog.cellsOf 25))=some z1:=hg 1 _ rfl
       rw[YN]at g1
       obtain⟨s,u1,hy1,_⟩:=DataW.trod_string Tryz.underlying9 (show DataW.trod enc Tryz.prog w 0 (fun _=>true) true k 9 [d0]=some z0 from g0)
       obtain⟨t,ve,vk,u2,ht⟩:=ih k (by omega) [d1,d2] z1 (show DataW.trod enc Tryz.prog w 0 (fun _=>true) true k 25 [d1,d2]=some z1 from g1) (Wt.field Tryz.underlying96 hwy (i:=1) rfl rfl)
       have hs:s.size<=Big:=by
        have:=Wt.field Tryz.underlying96 hwy (i:=0) (d:=z0.1) rfl rfl s.size (by rw[hy1];simp[DataW.weights])
        unfold reachBytes at this;unfold Big;omega
       simp at u1 u2
       obtain⟨rfl,rfl⟩:=u2
       subst u1
       exact⟨(s,t),d1,d2,rfl,hs,ht⟩)
   simp at e0 e1
   subst e0;subst e1
   exact⟨.mk es ks,c0,c1,rfl,QC.2 ⟨h0,h1⟩⟩
theorem ZW (hl:laidOutB Tryz.prog=true){W':World}:∀ (ts:List TypeId) (vs:List Value) (ds:List (DataW H)) (ps:List MemPlace),(∀ t∈ts,Tryz.prog.readableRec t=true/\t<Tryz.prog.types.size) ->
  DataW.TrodAll enc Tryz.prog w 0 (fun _=>true) true ts vs ds ps->Below w.heap.size w W'->(∀ x∈ps,x.block<w.heap.size)->DataW.TrodAll enc Tryz.prog W' 0 (fun b=>decide (b<w.heap.size)) true ts vs ds ps
 |[],[],[],ps,_,h,_,_=>h
 |t :: ts,v :: vs,d :: ds,ps,hr,h,hb,hlt=>by
  obtain⟨p,q,h1,h2,rfl⟩:=h
  exact⟨p,q,Below.trod hl (hr t (by simp)).1 (hr t (by simp)).2 h1 hb (fun x hx=>hlt x (List.mem_append_left _ hx)),ZW hl ts vs ds q (fun t ht=>hr t (by simp[ht])) h2 hb (fun x hx=>hlt x (List.mem_append_right _ hx)),rfl⟩
end
theorem own:ownKnob Tryz.prog.godebug=none:=by kernel_rfl
theorem qZw:laidOutB Tryz.prog=true:=by kernel_rfl
end Go.Proofs.YtbcoelggdikipaaGreat
