/- What the laws need. No condition but those that each lemma states. -/
import Derived.Test.YtbcoelggdikipaaGreatUq8
import Derived.Test.YtbcoelggdikipaaGreatUq4
import Derived.Test.YtbcoelggdikipaaGreatUq6
import Derived.Test.YtbcoelggdikipaaGreatUq7
set_option maxRecDepth 100000
set_option maxHeartbeats 8000000
set_option linter.unusedSimpArgs false
namespace Go.Proofs.YtbcoelggdikipaaGreat
open Go.RowKit
theorem qV4 (ca cb:List Sp)(n:Nat)(a b:Tr)(va ka vb kb vca vcb:Value)(w:World)(ha:a.rd w w.heap.size va ka)(hb:b.rd w w.heap.size vb kb)(hca:SlP w w.heap.size 3 SpE vca ca)(hcb:SlP w w.heap.size 3 SpE vcb cb)(hoa:a.Ord)(hob:b.Ord)(hda:a.dep<=n)(hdb:b.dep<=n)(hza:a.sz<=100000)(hzb:b.sz<=100000)(hra:Qm ca=true)(hrb:Qm cb=true)(hN1:ca.length<=20000)(hN2:cb.length<=20000) :
  Calls Tryz.prog 67 #[.agg #[va,ka,vca],.agg #[vb,kb,vcb]] w (RetC w (joinT n ca cb a b) (ctxBy ca cb 0)):=by
 have HA:=hid ha
 have HB:=hid hb
 have HCA:Hid (∀ w',Below w.heap.size w w'->SlP w' w'.heap.size 3 SpE vca ca):=fun w' hb=>hca.imp hb hb.size fun _ _ _ h=>h
 have HCB:Hid (∀ w',Below w.heap.size w w'->SlP w' w'.heap.size 3 SpE vcb cb):=fun w' hb=>hcb.imp hb hb.size fun _ _ _ h=>h
 have HR1:=hid hra
 have HR2:=hid hrb
 have hul:=Zm ca cb 0 4
 have HUL:Hid ((ctxBy ca cb 0).length<=Big):=by unfold Hid ctxBy Big;omega
 obtain⟨A1,n1,A2,n2,rfl,rfl⟩:=Qk ha
 obtain⟨A3,n3,A4,n4,rfl,rfl⟩:=Qk hb
 obtain⟨A5,n5,rfl,_⟩:=hca
 obtain⟨A6,n6,rfl,_⟩:=hcb
 have HX:Hid (∀ W,Below (w.heap.size+3) (((w.alloc (.cells #[.slice A1 a.es.length n1,.slice A2 a.ks.length n2,.slice A5 ca.length n5] 29)).alloc (.cells #[.slice A3 b.es.length n3,.slice A4 b.ks.length n4,.slice A6 cb.length n6] 29)).alloc (.cells #[.slice none 0 0,.slice none 0 0,.slice none 0 0] 29)) W->Below w.heap.size w W/\W.heap[w.heap.size+2]?=some (.cells #[.slice none 0 0,.slice none 0 0,.slice none 0 0] 29 (0,0))/\w.heap.size+3<=W.heap.size/\(W.cell? ⟨w.heap.size,0,none⟩=some (.slice A1 a.es.length n1)/\W.cell? ⟨w.heap.size,1,none⟩=some (.slice A2 a.ks.length n2)/\W.cell? ⟨w.heap.size,2,none⟩=some (.slice A5 ca.length n5)/\W.cell? ⟨w.heap.size+1,0,none⟩=some (.slice A3 b.es.length n3)/\W.cell? ⟨w.heap.size+1,1,none⟩=some (.slice A4 b.ks.length n4)/\W.cell? ⟨w.heap.size+1,2,none⟩=some (.slice A6 cb.length n6))):=fun W hW=>by
  have g0:W.heap[w.heap.size]?=some (.cells #[.slice A1 a.es.length n1,.slice A2 a.ks.length n2,.slice A5 ca.length n5] 29 (0,0)):=(hW.block _ (by omega)).trans ((Qg (by simp<;>omega)).trans ((Qg (by simp)).trans (Qd rfl)))
  have g1:W.heap[w.heap.size+1]?=some (.cells #[.slice A3 b.es.length n3,.slice A4 b.ks.length n4,.slice A6 cb.length n6] 29 (0,0)):=(hW.block _ (by omega)).trans ((Qg (by simp)).trans (Qd (by simp)))
  have g2:W.heap[w.heap.size+2]?=some (.cells #[.slice none 0 0,.slice none 0 0,.slice none 0 0] 29 (0,0)):=(hW.block _ (by omega)).trans (Qd (by simp))
  exact⟨((((Below.refl _ w).alloc (Nat.le_refl _) _).alloc (by simp) _).alloc (by simp;omega) _).trans (hW.mono (by omega)),g2,by have:=hW.size;simpa using this,Qa (i:=0) g0,Qa (i:=1) g0,Qa (i:=2) g0,Qa (i:=0) g1,Qa (i:=1) g1,Qa (i:=2) g1⟩
 have hneA:w.heap.size+1+1≠w.heap.size:=by omega
 have hneB:w.heap.size≠w.heap.size+1+1:=by omega
 clear ha hb
 go_enter Tryz.func67,Tryz.ntmps67
 go_upto_region 1 with (fail)
 go_region_held3 (fun w'=>w'.cell? ⟨w.heap.size,0,none⟩=some (.slice A1 a.es.length n1)/\w'.cell? ⟨w.heap.size,1,none⟩=some (.slice A2 a.ks.length n2)/\w'.cell? ⟨w.heap.size,2,none⟩=some (.slice A5 ca.length n5)/\w'.cell? ⟨w.heap.size+1,0,none⟩=some (.slice A3 b.es.length n3)/\w'.cell? ⟨w.heap.size+1,1,none⟩=some (.slice A4 b.ks.length n4)/\w'.cell? ⟨w.heap.size+1,2,none⟩=some (.slice A6 cb.length n6))
  (first|go_keep|exact (HX.out _ hbk2.out).2.2.2|exact (HX.out _ hbk1.out).2.2.2)
  (first
      |(go_at_call 111;go_loud ((refine (qKa ca cb (by omega) (by omega) n a b _ _ _ _ _ _ _ (Qi (HX.out _ (by go_grown)).1 (HX.out _ (by go_grown)).1.size _ _ _ HA.out) (Qi (HX.out _ (by go_grown)).1 (HX.out _ (by go_grown)).1.size _ _ _ HB.out) (HCA.out _ (HX.out _ (by go_grown)).1) (HCB.out _ (HX.out _ (by go_grown)).1) hoa hob hda hdb hza hzb).mono ?_);rintro e w1 ⟨ve1,vk1,rfl,hrd1,hb⟩;obtain⟨Av,nv,Aw,nw,rfl,rfl⟩:=Qj hrd1;have HR:=hid hrd1;have hbk1:Hid (Below (w.heap.size+3) (((w.alloc (.cells #[.slice A1 a.es.length n1,.slice A2 a.ks.length n2,.slice A5 ca.length n5] 29)).alloc (.cells #[.slice A3 b.es.length n3,.slice A4 b.ks.length n4,.slice A6 cb.length n6] 29)).alloc (.cells #[.slice none 0 0,.slice none 0 0,.slice none 0 0] 29)) w1):=(Below.trans (by go_grown) (hb.mono (by simp)));clear hrd1 hb))
      |(go_at_call 112;go_loud ((refine (YY ca cb _ _ w1 (HCA.out _ (HX.out _ hbk1.out).1) (HCB.out _ (HX.out _ hbk1.out).1) HR1.out HR2.out hN1 hN2).mono ?_);rintro e w2 ⟨v2,rfl,ho2,hb2⟩;obtain⟨A7,c7,hv7⟩:=ho2.shape;subst hv7;have HO2:=hid ho2;have hbk2:=hid (hbk1.out.trans (hb2.mono (HX.out _ hbk1.out).2.2.1));have HG2:=hid (HX.out _ hbk2.out).2.1;have k0:w2.cell? ⟨w.heap.size+2,0,none⟩=some (.slice none 0 0):=Qa (i:=0) HG2.out;have k1:w2.cell? ⟨w.heap.size+2,1,none⟩=some (.slice none 0 0):=Qa (i:=1) HG2.out;have k2:w2.cell? ⟨w.heap.size+2,2,none⟩=some (.slice none 0 0):=Qa (i:=2) HG2.out;have z0:=Qb (i:=0) HG2.out;have z1:=Qb (i:=1) HG2.out;have z2:=Qb (i:=2) HG2.out;have HB2:=hid hb2;clear ho2 hb2)))
 all_goals (
  go_wp2_with fail
  have hs2:w.heap.size+3<=w2.heap.size:=(HX.out _ hbk2.out).2.2.1
  have hs1:w.heap.size+3<=w1.heap.size:=(HX.out _ hbk1.out).2.2.1
  have hs12:=HB2.out.size
  obtain⟨r0,r1,r2,hK,hS⟩:=box3 HG2.out (.slice Av (joinT n ca cb a b).es.length nv) (.slice Aw (joinT n ca cb a b).ks.length nw) (.slice A7 (ctxBy ca cb 0).length c7)
  have hBW:Below w.heap.size w (((w2.setCell ⟨w.heap.size+2,0,none⟩ (.slice Av (joinT n ca cb a b).es.length nv)).setCell ⟨w.heap.size+2,1,none⟩ (.slice Aw (joinT n ca cb a b).ks.length nw)).setCell ⟨w.heap.size+2,2,none⟩ (.slice A7 (ctxBy ca cb 0).length c7)):=(((HX.out _ hbk2.out).1.setCell (by simp) _).setCell (by simp) _).setCell (by simp) _
  clear k0 k1 k2 z0 z1 z2
  generalize (((w2.setCell ⟨w.heap.size+2,0,none⟩ (.slice Av (joinT n ca cb a b).es.length nv)).setCell ⟨w.heap.size+2,1,none⟩ (.slice Aw (joinT n ca cb a b).ks.length nw)).setCell ⟨w.heap.size+2,2,none⟩ (.slice A7 (ctxBy ca cb 0).length c7))=W at *
  refine bodyPost_ret (v:=.agg #[.slice Av (joinT n ca cb a b).es.length nv,.slice Aw (joinT n ca cb a b).ks.length nw,.slice A7 (ctxBy ca cb 0).length c7]) (by simp[results,Tryz.results67,go_sem,r0,r1,r2]) rfl ⟨_,_,_,rfl,?_,?_,hBW⟩
  ·exact Qp (fun b hb=>(hK b (by have:=hb.1;simp only[World.size_alloc,World.size_drew]at this;omega)).trans (HB2.out.block b hb.2)) (fun b hb=>⟨by have:=hb.1;simp only[World.size_alloc,World.size_drew]at this;omega,by have:=hb.2;omega⟩) _ _ _ HR.out
  ·exact (HO2.out.sla HUL.out).up (fun b hb=>hK b (by have:=hb.1;omega)) (fun b hb=>⟨by have:=hb.1;omega,by have:=hb.2.1;omega⟩) (fun _ _ _ h=>h))
theorem Ka {t:Tr}{c:List Sp}(h:caR t c=true):t.right 5=true:=by unfold caR at h;simp at h;exact h.1
theorem Kb {t:Tr}{c:List Sp}(h:caR t c=true):Qm c=true:=by rw[zZ3]at h;unfold r9R at h;simp at h;exact h.2.1
theorem qV5 {t:Tr}{c:List Sp}(h:caR t c=true):t.Ord:=Zd t 5 (Ka h)
theorem qZ6 {t:Tr}{c:List Sp}(h:caR t c=true):t.dep<=6:=by have:=qQo t 5 (Ka h);omega
def jnE (a b:Tr)(ca cb:List Sp):Int:=if caR a ca&&caR b cb then 0 else 1
def jnT (a b:Tr)(ca cb:List Sp):Tr:=if caR a ca&&caR b cb then joinT 6 ca cb a b else .mk [] []
def jnC (a b:Tr)(ca cb:List Sp):List Sp:=if caR a ca&&caR b cb then ctxBy ca cb 0 else []
theorem Kc (ca cb:List Sp)(a b:Tr)(va ka vb kb vca vcb:Value)(w:World)(ha:a.rd w w.heap.size va ka)(hb:b.rd w w.heap.size vb kb)(hca:SlP w w.heap.size 3 SpE vca ca)(hcb:SlP w w.heap.size 3 SpE vcb cb)(hza:a.sz<=4000)(hzb:b.sz<=4000)(hN1:ca.length<=20000)(hN2:cb.length<=20000) :
  Calls Tryz.prog 33 #[.agg #[va,ka,vca],.agg #[vb,kb,vcb]] w (RetCE w (jnT a b ca cb) (jnC a b ca cb) (jnE a b ca cb)):=by
 have HA:=hid ha
 have HB:=hid hb
 have HCA:Hid (∀ w',Below w.heap.size w w'->SlP w' w'.heap.size 3 SpE vca ca):=fun w' hb=>hca.imp hb hb.size fun _ _ _ h=>h
 have HCB:Hid (∀ w',Below w.heap.size w w'->SlP w' w'.heap.size 3 SpE vcb cb):=fun w' hb=>hcb.imp hb hb.size fun _ _ _ h=>h
 obtain⟨A1,n1,A2,n2,rfl,rfl⟩:=Qk ha
 obtain⟨A3,n3,A4,n4,rfl,rfl⟩:=Qk hb
 obtain⟨A5,n5,rfl,_⟩:=hca
 obtain⟨A6,n6,rfl,_⟩:=hcb
 have HX:Hid (∀ W,Below (w.heap.size+3) (((w.alloc (.cells #[.slice A1 a.es.length n1,.slice A2 a.ks.length n2,.slice A5 ca.length n5] 29)).alloc (.cells #[.slice A3 b.es.length n3,.slice A4 b.ks.length n4,.slice A6 cb.length n6] 29)).alloc (.cells #[.slice none 0 0,.slice none 0 0,.slice none 0 0] 29)) W->Below w.heap.size w W/\W.heap[w.heap.size+2]?=some (.cells #[.slice none 0 0,.slice none 0 0,.slice none 0 0] 29 (0,0))/\w.heap.size+3<=W.heap.size/\(W.cell? ⟨w.heap.size,0,none⟩=some (.slice A1 a.es.length n1)/\W.cell? ⟨w.heap.size,1,none⟩=some (.slice A2 a.ks.length n2)/\W.cell? ⟨w.heap.size,2,none⟩=some (.slice A5 ca.length n5)/\W.cell? ⟨w.heap.size+1,0,none⟩=some (.slice A3 b.es.length n3)/\W.cell? ⟨w.heap.size+1,1,none⟩=some (.slice A4 b.ks.length n4)/\W.cell? ⟨w.heap.size+1,2,none⟩=some (.slice A6 cb.length n6))):=fun W hW=>by
  have g0:W.heap[w.heap.size]?=some (.cells #[.slice A1 a.es.length n1,.slice A2 a.ks.length n2,.slice A5 ca.length n5] 29 (0,0)):=(hW.block _ (by omega)).trans ((Qg (by simp<;>omega)).trans ((Qg (by simp)).trans (Qd rfl)))
  have g1:W.heap[w.heap.size+1]?=some (.cells #[.slice A3 b.es.length n3,.slice A4 b.ks.length n4,.slice A6 cb.length n6] 29 (0,0)):=(hW.block _ (by omega)).trans ((Qg (by simp)).trans (Qd (by simp)))
  have g2:W.heap[w.heap.size+2]?=some (.cells #[.slice none 0 0,.slice none 0 0,.slice none 0 0] 29 (0,0)):=(hW.block _ (by omega)).trans (Qd (by simp))
  exact⟨((((Below.refl _ w).alloc (Nat.le_refl _) _).alloc (by simp) _).alloc (by simp;omega) _).trans (hW.mono (by omega)),g2,by have:=hW.size;simpa using this,Qa (i:=0) g0,Qa (i:=1) g0,Qa (i:=2) g0,Qa (i:=0) g1,Qa (i:=1) g1,Qa (i:=2) g1⟩
 clear ha hb
 go_enter Tryz.func33,Tryz.ntmps33
 cases hc1:caR a ca
 ·have HR1:=hid hc1
  have HR2:Hid (caR b cb=caR b cb):=rfl
  have HE:Hid (jnE a b ca cb=1):=by unfold Hid jnE;rw[hc1];rfl
  have HTT:Hid (jnT a b ca cb=.mk [] []):=by unfold Hid jnT;rw[hc1];rfl
  have HCC:Hid (jnC a b ca cb=[]):=by unfold Hid jnC;rw[hc1];rfl
  clear hc1
  have hB0:=(HX.out _ (Below.refl _ _)).1
  go_wp2_with fail
  refine (QT a ca _ _ _ _ (Qi hB0 hB0.size _ _ _ HA.out) (HCA.out _ hB0) hza hN1).mono ?_
  rw[HR1.out]
  rintro e w1 ⟨rfl,hb1⟩
  have hbq1:=hid (hb1.mono (show w.heap.size+3<=_ by simp))
  clear hb1 hB0
  obtain⟨hB1,hG,hsq,q0,q1,q2,q3,q4,q5⟩:=HX.out w1 hbq1.out
  have HG:=hid hG
  have k0:(w1).cell? ⟨w.heap.size+2,0,none⟩=some (.slice none 0 0):=Qa (i:=0) HG.out
  have k1:(w1).cell? ⟨w.heap.size+2,1,none⟩=some (.slice none 0 0):=Qa (i:=1) HG.out
  have k2:(w1).cell? ⟨w.heap.size+2,2,none⟩=some (.slice none 0 0):=Qa (i:=2) HG.out
  have z0:=Qb (i:=0) HG.out
  have z1:=Qb (i:=1) HG.out
  have z2:=Qb (i:=2) HG.out
  clear hG
  go_wp2_with fail
  obtain⟨r0,r1,r2,hK,hS⟩:=box3 HG.out (.slice none 0 0) (.slice none 0 0) (.slice none 0 0)
  have hBW:=((hB1.setCell (p:=⟨w.heap.size+2,0,none⟩) (by simp) (.slice none 0 0)).setCell (p:=⟨w.heap.size+2,1,none⟩) (by simp) (.slice none 0 0)).setCell (p:=⟨w.heap.size+2,2,none⟩) (by simp) (.slice none 0 0)
  refine bodyPost_ret (v:=.tuple #[.agg #[.slice none 0 0,.slice none 0 0,.slice none 0 0],.int .i64 1]) (by simp[results,Tryz.results33,go_sem,r0,r1,r2]) rfl ⟨_,_,_,by rw[HE.out],?_,?_,hBW⟩
  ·rw[HTT.out];exact Qo _ _
  ·rw[HCC.out];exact SlA.nil
 cases hc2:caR b cb
 ·have HR1:=hid hc1
  have HR2:=hid hc2
  have HE:Hid (jnE a b ca cb=1):=by unfold Hid jnE;rw[hc1,hc2];rfl
  have HTT:Hid (jnT a b ca cb=.mk [] []):=by unfold Hid jnT;rw[hc1,hc2];rfl
  have HCC:Hid (jnC a b ca cb=[]):=by unfold Hid jnC;rw[hc1,hc2];rfl
  clear hc1 hc2
  have hB0:=(HX.out _ (Below.refl _ _)).1
  go_wp2_with fail
  refine (QT a ca _ _ _ _ (Qi hB0 hB0.size _ _ _ HA.out) (HCA.out _ hB0) hza hN1).mono ?_
  rw[HR1.out]
  rintro e w1 ⟨rfl,hb1⟩
  have hbq1:=hid (hb1.mono (show w.heap.size+3<=_ by simp))
  clear hb1 hB0
  obtain⟨hB1,hG,hsq,q0,q1,q2,q3,q4,q5⟩:=HX.out w1 hbq1.out
  have HG:=hid hG
  have k0:(w1).cell? ⟨w.heap.size+2,0,none⟩=some (.slice none 0 0):=Qa (i:=0) HG.out
  have k1:(w1).cell? ⟨w.heap.size+2,1,none⟩=some (.slice none 0 0):=Qa (i:=1) HG.out
  have k2:(w1).cell? ⟨w.heap.size+2,2,none⟩=some (.slice none 0 0):=Qa (i:=2) HG.out
  have z0:=Qb (i:=0) HG.out
  have z1:=Qb (i:=1) HG.out
  have z2:=Qb (i:=2) HG.out
  clear hG
  go_wp2_with fail
  refine (QT b cb _ _ _ w1 (Qi hB1 hB1.size _ _ _ HB.out) (HCB.out _ hB1) hzb hN2).mono ?_
  rw[HR2.out]
  rintro e w2 ⟨rfl,hb2⟩
  have hbq2:=hid (hbq1.out.trans (hb2.mono hsq))
  clear hb2 hB1 k0 k1 k2 z0 z1 z2 q0 q1 q2 q3 q4 q5 hsq HG
  obtain⟨hB1,hG,hsq,q0,q1,q2,q3,q4,q5⟩:=HX.out w2 hbq2.out
  have HG:=hid hG
  have k0:(w2).cell? ⟨w.heap.size+2,0,none⟩=some (.slice none 0 0):=Qa (i:=0) HG.out
  have k1:(w2).cell? ⟨w.heap.size+2,1,none⟩=some (.slice none 0 0):=Qa (i:=1) HG.out
  have k2:(w2).cell? ⟨w.heap.size+2,2,none⟩=some (.slice none 0 0):=Qa (i:=2) HG.out
  have z0:=Qb (i:=0) HG.out
  have z1:=Qb (i:=1) HG.out
  have z2:=Qb (i:=2) HG.out
  clear hG
  go_wp2_with fail
  obtain⟨r0,r1,r2,hK,hS⟩:=box3 HG.out (.slice none 0 0) (.slice none 0 0) (.slice none 0 0)
  have hBW:=((hB1.setCell (p:=⟨w.heap.size+2,0,none⟩) (by simp) (.slice none 0 0)).setCell (p:=⟨w.heap.size+2,1,none⟩) (by simp) (.slice none 0 0)).setCell (p:=⟨w.heap.size+2,2,none⟩) (by simp) (.slice none 0 0)
  refine bodyPost_ret (v:=.tuple #[.agg #[.slice none 0 0,.slice none 0 0,.slice none 0 0],.int .i64 1]) (by simp[results,Tryz.results33,go_sem,r0,r1,r2]) rfl ⟨_,_,_,by rw[HE.out],?_,?_,hBW⟩
  ·rw[HTT.out];exact Qo _ _
  ·rw[HCC.out];exact SlA.nil
 ·have HR1:=hid hc1
  have HR2:=hid hc2
  have HE:Hid (jnE a b ca cb=0):=by unfold Hid jnE;rw[hc1,hc2];rfl
  have HTT:Hid (jnT a b ca cb=joinT 6 ca cb a b):=by unfold Hid jnT;rw[hc1,hc2];rfl
  have HCC:Hid (jnC a b ca cb=ctxBy ca cb 0):=by unfold Hid jnC;rw[hc1,hc2];rfl
  have HOA:=hid (qV5 hc1)
  have HOB:=hid (qV5 hc2)
  have HDA:=hid (qZ6 hc1)
  have HDB:=hid (qZ6 hc2)
  have HPA:=hid (Kb hc1)
  have HPB:=hid (Kb hc2)
  clear hc1 hc2
  have hB0:=(HX.out _ (Below.refl _ _)).1
  go_wp2_with fail
  refine (QT a ca _ _ _ _ (Qi hB0 hB0.size _ _ _ HA.out) (HCA.out _ hB0) hza hN1).mono ?_
  rw[HR1.out]
  rintro e w1 ⟨rfl,hb1⟩
  have hbq1:=hid (hb1.mono (show w.heap.size+3<=_ by simp))
  clear hb1 hB0
  obtain⟨hB1,hG,hsq,q0,q1,q2,q3,q4,q5⟩:=HX.out w1 hbq1.out
  have HG:=hid hG
  have k0:(w1).cell? ⟨w.heap.size+2,0,none⟩=some (.slice none 0 0):=Qa (i:=0) HG.out
  have k1:(w1).cell? ⟨w.heap.size+2,1,none⟩=some (.slice none 0 0):=Qa (i:=1) HG.out
  have k2:(w1).cell? ⟨w.heap.size+2,2,none⟩=some (.slice none 0 0):=Qa (i:=2) HG.out
  have z0:=Qb (i:=0) HG.out
  have z1:=Qb (i:=1) HG.out
  have z2:=Qb (i:=2) HG.out
  clear hG
  go_wp2_with fail
  refine (QT b cb _ _ _ w1 (Qi hB1 hB1.size _ _ _ HB.out) (HCB.out _ hB1) hzb hN2).mono ?_
  rw[HR2.out]
  rintro e w2 ⟨rfl,hb2⟩
  have hbq2:=hid (hbq1.out.trans (hb2.mono hsq))
  clear hb2 hB1 k0 k1 k2 z0 z1 z2 q0 q1 q2 q3 q4 q5 hsq HG
  obtain⟨hB1,hG,hsq,q0,q1,q2,q3,q4,q5⟩:=HX.out w2 hbq2.out
  have HG:=hid hG
  have k0:(w2).cell? ⟨w.heap.size+2,0,none⟩=some (.slice none 0 0):=Qa (i:=0) HG.out
  have k1:(w2).cell? ⟨w.heap.size+2,1,none⟩=some (.slice none 0 0):=Qa (i:=1) HG.out
  have k2:(w2).cell? ⟨w.heap.size+2,2,none⟩=some (.slice none 0 0):=Qa (i:=2) HG.out
  have z0:=Qb (i:=0) HG.out
  have z1:=Qb (i:=1) HG.out
  have z2:=Qb (i:=2) HG.out
  clear hG
  go_wp2_with fail
  refine (qV4 ca cb 6 a b _ _ _ _ _ _ w2 (Qi hB1 hB1.size _ _ _ HA.out) (Qi hB1 hB1.size _ _ _ HB.out) (HCA.out _ hB1) (HCB.out _ hB1) HOA.out HOB.out HDA.out HDB.out (by omega) (by omega) HPA.out HPB.out hN1 hN2).mono ?_
  rintro e w5 ⟨ve,vk,vc,rfl,hrd5,hsl5,hb5⟩
  obtain⟨A7,n7,A8,n8,rfl,rfl⟩:=Qj hrd5
  have HS5:=hid hsl5
  obtain⟨A9,n9,hv9,_⟩:=hsl5
  subst hv9
  have HR5:=hid hrd5
  have hs25:=hb5.size
  have hs2:=hsq
  have hbq5:=hid (hbq2.out.trans (hb5.mono hsq))
  clear hrd5 hb5 hB1 k0 k1 k2 z0 z1 z2 q0 q1 q2 q3 q4 q5 hsq HG
  obtain⟨hB1,hG,hsq,q0,q1,q2,q3,q4,q5⟩:=HX.out w5 hbq5.out
  have HG:=hid hG
  have k0:(w5).cell? ⟨w.heap.size+2,0,none⟩=some (.slice none 0 0):=Qa (i:=0) HG.out
  have k1:(w5).cell? ⟨w.heap.size+2,1,none⟩=some (.slice none 0 0):=Qa (i:=1) HG.out
  have k2:(w5).cell? ⟨w.heap.size+2,2,none⟩=some (.slice none 0 0):=Qa (i:=2) HG.out
  have z0:=Qb (i:=0) HG.out
  have z1:=Qb (i:=1) HG.out
  have z2:=Qb (i:=2) HG.out
  clear hG
  go_wp2_with fail
  obtain⟨r0,r1,r2,hK,hS⟩:=box3 HG.out (.slice A7 (joinT 6 ca cb a b).es.length n7) (.slice A8 (joinT 6 ca cb a b).ks.length n8) (.slice A9 (ctxBy ca cb 0).length n9)
  have hBW:Below w.heap.size w (((w5.setCell ⟨w.heap.size+2,0,none⟩ (.slice A7 (joinT 6 ca cb a b).es.length n7)).setCell ⟨w.heap.size+2,1,none⟩ (.slice A8 (joinT 6 ca cb a b).ks.length n8)).setCell ⟨w.heap.size+2,2,none⟩ (.slice A9 (ctxBy ca cb 0).length n9)):=((hB1.setCell (by simp) _).setCell (by simp) _).setCell (by simp) _
  clear k0 k1 k2 z0 z1 z2
  generalize (((w5.setCell ⟨w.heap.size+2,0,none⟩ (.slice A7 (joinT 6 ca cb a b).es.length n7)).setCell ⟨w.heap.size+2,1,none⟩ (.slice A8 (joinT 6 ca cb a b).ks.length n8)).setCell ⟨w.heap.size+2,2,none⟩ (.slice A9 (ctxBy ca cb 0).length n9))=W at *
  refine bodyPost_ret (v:=.tuple #[.agg #[.slice A7 (joinT 6 ca cb a b).es.length n7,.slice A8 (joinT 6 ca cb a b).ks.length n8,.slice A9 (ctxBy ca cb 0).length n9],.int .i64 0]) (by simp[results,Tryz.results33,go_sem,r0,r1,r2]) rfl ⟨_,_,_,by rw[HE.out],?_,?_,hBW⟩
  ·rw[HTT.out]
   exact Qp (fun b hb=>hK b (by have:=hb.1;omega)) (fun b hb=>⟨by have:=hb.1;omega,by have:=hb.2;omega⟩) _ _ _ HR5.out
  ·rw[HCC.out]
   exact HS5.out.up (fun b hb=>hK b (by have:=hb.1;omega)) (fun b hb=>⟨by have:=hb.1;omega,by have:=hb.2;omega⟩) (fun _ _ _ h=>h)
/-! contexts by their dots -/
theorem Yp (a b:List Sp)(how:Int){i:Nat}(hi:i<4):partL (ctxBy a b how) i=byL (partL a i) (partL b i) how:=by
 rw[Xg,Yu,if_pos hi]
theorem Ya {c:List Sp}(h:Qm c=true){i:Nat}(hi:i<4):∀ r∈partL c i,runOk r:=J6 _ none (Qx h hi)
theorem Y2 {a b:List Sp}(ha:Qm a=true)(hb:Qm b=true)(how:Int):Qm (ctxBy a b how)=true:=by
 rw[Xg]
 exact J4 fun i hi=>(Yl how (Ya ha hi) (Ya hb hi)).1
theorem qZ7 {a b:List Sp}(ha:Qm a=true)(hb:Qm b=true)(how:Int){d:Dt}(hd:d.right=true):hasC (ctxBy a b how) d=inn how (hasC a d) (hasC b d):=by
 have h1:=(VG hd).1
 obtain⟨i,hi⟩:∃ i:Nat,(i:Int)=d.dc:=⟨d.dc.toNat,by omega⟩
 have h4:i<4:=by omega
 unfold hasC
 rw[hd,←hi,Yp a b how h4,(Yl how (Ya ha h4) (Ya hb h4)).2]
 simp
theorem Y3 {c:List Sp}{d:Dt}(h:hasC c d=true):d.right=true:=by unfold hasC at h;rw[Bool.and_eq_true]at h;exact h.1
theorem QH {a b:List Sp}(ha:Qm a=true)(hb:Qm b=true)(d:Dt):hasC (ctxBy a b 0) d=(hasC a d||hasC b d):=by
 cases hd:d.right
 ·unfold hasC;simp[hd]
 ·rw[qZ7 ha hb 0 hd];rfl
theorem qKe {a b:List Sp}(ha:Qm a=true)(hb:Qm b=true)(d:Dt):hasC (ctxBy a b 2) d=(hasC a d&&!hasC b d):=by
 cases hd:d.right
 ·unfold hasC;simp[hd]
 ·rw[qZ7 ha hb 2 hd];rfl
theorem qV6 {l:List (Int×Int)}(h:∀ r∈l,runOk r){n:Int}(hn:hasL l n=true):1<=n/\n<=1099511627776:=by
 unfold hasL at hn
 obtain⟨r,hr,h1⟩:=List.any_eq_true.1 hn
 have:=h r hr
 unfold runOk at this
 unfold inR at h1
 simp at h1
 omega
theorem VJ {i:Nat}(hi:i<4){n:Int}(h:1<=n/\n<=1099511627776):(⟨i,n⟩:Dt).right=true:=by
 unfold Dt.right;simp;omega
theorem qZ8 {a b:List Sp}(ha:Qm a=true)(hb:Qm b=true)(h:∀ d,hasC a d=hasC b d):a=b:=by
 rw[←K6 ha,←K6 hb]
 refine qYf fun i hi=>YH _ _ none none (Qx ha hi) (Qx hb hi) fun n=>?_
 by_cases hn:1<=n/\n<=1099511627776
 ·have:=h ⟨i,n⟩
  unfold hasC at this
  rw[VJ hi hn]at this
  simpa using this
 ·have e1:hasL (partL a i) n=false:=by
   cases hc:hasL (partL a i) n
   ·rfl
   ·exact absurd (qV6 (Ya ha hi) hc) hn
  have e2:hasL (partL b i) n=false:=by
   cases hc:hasL (partL b i) n
   ·rfl
   ·exact absurd (qV6 (Ya hb hi) hc) hn
  rw[e1,e2]
theorem Ke:Qm []=true:=by kernel_rfl
theorem XN (d:Dt):hasC [] d=false:=by unfold hasC partL hasL;simp
theorem zXu {c:List Sp}(hc:Qm c=true):c=[]↔∀ d,hasC c d=false:=by
 constructor
 ·rintro rfl;exact XN
 ·intro h;exact qZ8 hc Ke fun d=>by rw[h,XN]
theorem qYq {a b:List Sp}(ha:Qm a=true)(hb:Qm b=true):cLeq a b=true↔∀ d,hasC a d=true->hasC b d=true:=by
 unfold cLeq
 rw[ha,hb,Bool.true_and,Bool.true_and,decide_eq_true_eq,List.length_eq_zero_iff,zXu (Y2 ha hb 2)]
 refine forall_congr' fun d=>?_
 rw[qKe ha hb]
 cases hasC a d<;>cases hasC b d<;>simp
/-! right trees by their leaves -/
theorem qV7:∀ (es:List En) (p:Option Dt),(es.Pairwise fun a b=>a.dot.lt b.dot=true)->(∀ e∈es,okP p e.dot=true)->(∀ e∈es,e.right=true)->entsB p es=true
 |[],_,_,_,_=>by unfold entsB;rfl
 |e :: es,p,h,h1,h2=>by
  obtain⟨h3,h4⟩:=List.pairwise_cons.1 h
  rw[ZN,h2 e (by simp),h1 e (by simp),qV7 es (some e.dot) h4 (fun a ha=>h3 a ha) fun a ha=>h2 a (by simp[ha])];rfl
theorem qV8 (d:Int):∀ (ks:List Kd) (p:Option ByteArray),(ks.Pairwise fun a b=>ltS a.1 b.1=true)->(∀ x∈ks,okK p x.1=true)->(∀ k t,(k,t)∈ks->keyB k=true/\t.empty=false/\t.right (d-1)=true)->Tr.rightL p ks d=true
 |[],p,_,_,_=>by cases p<;>rw[Tr.rightL]
 |(k,t) :: ks,p,h,h1,h2=>by
  obtain⟨h3,h4⟩:=List.pairwise_cons.1 h
  obtain⟨g1,g2,g3⟩:=h2 k t (by simp)
  rw[QZ,g1,g2,g3,h1 (k,t) (by simp),qV8 d ks (some k) h4 (fun a ha=>h3 a ha) fun k' t' hm=>h2 k' t' (by simp[hm])];rfl
def LfR (n:Int)(x:Lf):Prop:=(x.1.length:Int)+1<=n/\(∀ k∈x.1,keyB k=true)/\x.2.right=true
theorem Y4:∀ (t:Tr) (n:Int),t.right n=true->∀ x∈t.lvs [],LfR n x:=by
 intro t
 induction t using Tr.ind with
 |h es ks ih=>
 intro n h x hx
 rw[Tr.right,Bool.and_eq_true,Bool.and_eq_true]at h
 have hn:=of_decide_eq_true h.1.1
 obtain⟨p,e⟩:=x
 match p with
 |[]=>
  have he:=Zp.1 hx
  refine⟨by simpa using hn,by simp,?_⟩
  have:∀ (es:List En) (p:Option Dt),entsB p es=true->∀ e∈es,e.right=true:=by
   intro es
   induction es with
   |nil=>intro _ _ _ h;cases h
   |cons y es ih=>
    intro p h e he
    rw[ZN,Bool.and_eq_true,Bool.and_eq_true]at h
    rcases List.mem_cons.1 he with rfl|he
    ·exact h.1.1
    ·exact ih _ h.2 e he
  exact this es none h.1.2 e he
 |k :: qs=>
  obtain⟨t,hm,hx⟩:=Qt.1 hx
  have hk:∀ (ks:List Kd) (p:Option ByteArray),Tr.rightL p ks n=true->∀ k t,(k,t)∈ks->keyB k=true/\t.right (n-1)=true:=by
   intro ks
   induction ks with
   |nil=>intro _ _ _ _ h;cases h
   |cons y ks ih=>
    obtain⟨y1,y2⟩:=y
    intro p h k t he
    rw[QZ,Bool.and_eq_true,Bool.and_eq_true,Bool.and_eq_true,Bool.and_eq_true]at h
    obtain⟨⟨⟨⟨a1,a2⟩,a3⟩,a4⟩,a5⟩:=h
    rcases List.mem_cons.1 he with he|he
    ·cases he;exact⟨a1,a4⟩
    ·exact ih _ a5 k t he
  obtain⟨h1,h2⟩:=hk ks none h.2 k t hm
  obtain⟨g1,g2,g3⟩:=ih k t hm _ h2 _ hx
  exact⟨by simp at g1 ⊢;omega,fun q hq=>by
   rcases List.mem_cons.1 hq with rfl|hq
   ·exact h1
   ·exact g2 q hq,g3⟩
theorem VK:∀ (t:Tr) (n:Int),1<=n->t.Ord->(∀ x∈t.lvs [],LfR n x)->t.right n=true:=by
 intro t
 induction t using Tr.ind with
 |h es ks ih=>
 intro n hn ho hl
 obtain⟨h1,h2,h3⟩:=QO.1 ho
 rw[Tr.right,Bool.and_eq_true,Bool.and_eq_true]
 refine⟨⟨by simpa using hn,qV7 es none h1 (fun _ _=>rfl) fun e he=>(hl ([],e) (Zp.2 he)).2.2⟩,qV8 n ks none h2 (fun _ _=>rfl) fun k t hm=>?_⟩
 obtain⟨g1,g2,g3⟩:=h3 k t hm
 have hsub:∀ x∈t.lvs [],LfR (n-1) x/\keyB k=true:=by
  rintro⟨qs,e⟩ hx
  obtain⟨f1,f2,f3⟩:=hl (k :: qs,e) (Qt.2 ⟨t,hm,hx⟩)
  exact⟨⟨by simp at f1 ⊢;omega,fun q hq=>f2 q (by simp[hq]),f3⟩,f2 k (by simp)⟩
 obtain⟨x,hx⟩:=Xv t g3 g2
 have hd:=(hsub x hx).1.1
 exact⟨(hsub x hx).2,g2,ih k t hm (n-1) (by omega) g3 fun x hx=>(hsub x hx).1⟩
theorem ZZ {t:Tr}(h:t.Ord):t.right 5=true↔∀ x∈t.lvs [],LfR 5 x:=⟨Y4 t 5,VK t 5 (by omega) h⟩
/-! the dots of a tree -/
theorem qV9 {ks:List Kd}{d:Dt}:d∈Tr.dotsL ks↔∃ k t,(k,t)∈ks/\d∈t.dots:=by
 induction ks with
 |nil=>simp[Tr.dotsL]
 |cons y ks ih=>
  obtain⟨k,t⟩:=y
  rw[Tr.dotsL,List.mem_append,ih]
  constructor
  ·rintro (h|⟨k',t',hm,h⟩)
   ·exact⟨k,t,by simp,h⟩
   ·exact⟨k',t',by simp[hm],h⟩
  ·rintro⟨k',t',hm,h⟩
   rcases List.mem_cons.1 hm with e|hm
   ·cases e;exact .inl h
   ·exact .inr ⟨k',t',hm,h⟩
theorem Yb (t:Tr):∀ d,d∈t.dots↔∃ p e,((p,e):Lf)∈t.lvs []/\e.dot=d:=by
 induction t using Tr.ind with
 |h es ks ih=>
 intro d
 rw[Tr.dots,List.mem_append,List.mem_map,qV9]
 constructor
 ·rintro (⟨e,he,rfl⟩|⟨k,t,hm,hd⟩)
  ·exact⟨[],e,Zp.2 he,rfl⟩
  ·obtain⟨p,e,hp,rfl⟩:=(ih k t hm d).1 hd
   exact⟨k :: p,e,Qt.2 ⟨t,hm,hp⟩,rfl⟩
 ·rintro⟨p,e,hx,rfl⟩
  match p with
  |[]=>exact .inl ⟨e,Zp.1 hx,rfl⟩
  |k :: qs=>
   obtain⟨t,hm,hx⟩:=Qt.1 hx
   exact .inr ⟨k,t,hm,(ih k t hm _).2 ⟨qs,e,hx,rfl⟩⟩
theorem qQz {e:En}(h:e.right=true):e.dot.right=true:=by
 unfold En.right at h;simp at h;exact h.1
theorem QI {t:Tr}(h:t.right 5=true):∀ d∈t.dots,d.right=true:=fun d hd=>by
 obtain⟨p,e,hx,rfl⟩:=(Yb t d).1 hd
 exact qQz (Y4 t 5 h _ hx).2.2
theorem YL {t:Tr}(h:t.right 5=true){d:Dt}:hasC (ctxOf t.dots) d=true↔d∈t.dots:=by
 constructor
 ·intro hc;rw[ZP (QI h) (Y3 hc)]at hc;simpa using hc
 ·intro hm;rw[ZP (QI h) (QI h d hm)];simpa using hm
/-! what is known, right -/
structure CaOk (t:Tr)(c:List Sp):Prop where
 ord:t.Ord
 leaf:∀ x∈t.lvs [],LfR 5 x
 ap:Qm c=true
 has:∀ x∈t.lvs [],hasC c x.2.dot=true
theorem Xj {t:Tr}{c:List Sp}:caR t c=true↔CaOk t c:=by
 unfold caR
 rw[Bool.and_eq_true]
 constructor
 ·rintro⟨h1,h2⟩
  have hc:Qm c=true:=by unfold cLeq at h2;simp only[Bool.and_eq_true]at h2;exact h2.2.1
  refine⟨Zd t 5 h1,Y4 t 5 h1,hc,fun x hx=>?_⟩
  have ha:=Qr (QI h1)
  exact (qYq ha hc).1 h2 _ ((YL h1).2 ((Yb t _).2 ⟨x.1,x.2,hx,rfl⟩))
 ·rintro⟨h1,h2,h3,h4⟩
  have hr:=(ZZ h1).2 h2
  refine⟨hr,(qYq (Qr (QI hr)) h3).2 fun d hd=>?_⟩
  obtain⟨p,e,hx,rfl⟩:=(Yb t d).1 ((YL hr).1 hd)
  exact h4 _ hx
theorem CaOk.dep {t:Tr}{c:List Sp}(h:CaOk t c):t.dep<=6:=qZ6 (Xj.2 h)
theorem CaOk.ext {s t:Tr}{c d:List Sp}(h:CaOk s c)(k:CaOk t d)(hl:∀ p e,((p,e):Lf)∈s.lvs []↔((p,e):Lf)∈t.lvs [])(hd:∀ x,hasC c x=hasC d x):s=t/\c=d:=
 ⟨qVg s t h.ord k.ord fun ⟨p,e⟩=>hl p e,qZ8 h.ap k.ap hd⟩
abbrev jT (a b:Tr)(ca cb:List Sp):Tr:=joinT 6 ca cb a b
abbrev jC (ca cb:List Sp):List Sp:=ctxBy ca cb 0
theorem qWa {a b:Tr}{ca cb:List Sp}(ha:CaOk a ca)(hb:CaOk b cb)(p:List ByteArray)(e:En):((p,e):Lf)∈(jT a b ca cb).lvs []↔EntJ ca cb (fun x=>((p,x):Lf)∈a.lvs []) (fun y=>((p,y):Lf)∈b.lvs []) e:=
 (Jj ca cb 6 a b ha.ord hb.ord ha.dep hb.dep).2 p e
theorem zXv (x y:En):grtE x y=x∨grtE x y=y:=by unfold grtE;split<;>simp
theorem EntJ.leaf {ca cb:List Sp}{a b:En->Prop}{e:En}(h:EntJ ca cb a b e):a e∨b e:=by
 rcases h with⟨x,y,hx,hy,_,rfl⟩|⟨hx,_,_⟩|⟨hx,_,_⟩
 ·rcases zXv x y with h|h<;>rw[h]
  ·exact .inl hx
  ·exact .inr hy
 ·exact .inl hx
 ·exact .inr hx
theorem jT_ok {a b:Tr}{ca cb:List Sp}(ha:CaOk a ca)(hb:CaOk b cb):CaOk (jT a b ca cb) (jC ca cb):=by
 refine⟨(Jj ca cb 6 a b ha.ord hb.ord ha.dep hb.dep).1,fun x hx=>?_,Y2 ha.ap hb.ap 0,fun x hx=>?_⟩
 ·obtain⟨p,e⟩:=x
  rcases ((qWa ha hb p e).1 hx).leaf with h|h
  ·exact ha.leaf _ h
  ·exact hb.leaf _ h
 ·obtain⟨p,e⟩:=x
  rw[QH ha.ap hb.ap]
  rcases ((qWa ha hb p e).1 hx).leaf with h|h
  ·rw[ha.has _ h];rfl
  ·rw[hb.has _ h];simp
theorem jn_ok {a b:Tr}{ca cb:List Sp}(ha:CaOk a ca)(hb:CaOk b cb):jnE a b ca cb=0/\jnT a b ca cb=jT a b ca cb/\jnC a b ca cb=jC ca cb:=by
 unfold jnE jnT jnC
 rw[Xj.2 ha,Xj.2 hb]
 exact⟨rfl,rfl,rfl⟩
theorem qWb {y x:En}:gtE y x=true↔x.v<y.v∨(y.v=x.v/\ltS x.s y.s=true):=by unfold gtE;simp
theorem zZ4 {y x:En}:gtE y x=false↔y.v<x.v∨(y.v=x.v/\ltS x.s y.s=false):=by
 rw[←Bool.not_eq_true,qWb]
 cases ltS x.s y.s<;>simp<;>omega
theorem qWc {x y z:En}(h:gtE x y=true)(k:gtE y z=true):gtE x z=true:=by
 rw[qWb]at *
 rcases h with h|⟨h,h'⟩<;>rcases k with k|⟨k,k'⟩
 ·exact .inl (by omega)
 ·exact .inl (by omega)
 ·exact .inl (by omega)
 ·exact .inr ⟨by omega,QB k' h'⟩
theorem qYr (x:En):gtE x x=false:=by rw[zZ4];exact .inr ⟨rfl,Qw _⟩
theorem qWd {x y:En}(hd:x.dot=y.dot)(h:gtE x y=false)(k:gtE y x=false):x=y:=by
 rw[zZ4]at *
 rcases h with h|⟨h,h'⟩<;>rcases k with k|⟨k,k'⟩
 ·omega
 ·omega
 ·omega
 ·have:=ZQ h' k'
  obtain⟨a,b,c,d⟩:=x
  obtain⟨a',b',c',d'⟩:=y
  simp only[En.dot,Dt.mk.injEq]at hd
  simp only at this h
  obtain⟨rfl,rfl⟩:=hd
  subst this;subst h;rfl
theorem zQv (x:En):grtE x x=x:=by rw[Zu,qYr];rfl
theorem zQw {x y:En}(hd:x.dot=y.dot):grtE x y=grtE y x:=by
 rw[Zu,Zu]
 cases h1:gtE y x<;>cases h2:gtE x y<;>simp
 ·exact qWd hd h2 h1
 ·have:=qWc h1 h2;rw[qYr]at this;cases this
theorem qWe {x y z:En}(_:x.dot=y.dot)(h2:y.dot=z.dot):grtE (grtE x y) z=grtE x (grtE y z):=by
 rw[Zu x y,Zu y z]
 cases a:gtE y x<;>cases b:gtE z y<;>simp only[if_true,if_false,Bool.false_eq_true]
 ·rw[Zu x z,Zu x y,a]
  cases c:gtE z x
  ·simp
  ·simp
   -- z > x, not z > y, not y > x : then y ≥ z > x, so y > x
   exfalso
   cases d:gtE y z
   ·have:=qWd h2 d b;subst this;rw[a]at c;cases c
   ·have:=qWc d c;rw[a]at this;cases this
 ·rw[Zu y z,b,Zu x y,a];rfl
 ·rw[Zu y z,b,Zu x z,qWc b a];rfl
def stE (t:Tr)(p:List ByteArray)(d:Dt):Option En:=((t.lvs []).find? fun x=>decide (x.1=p)&&decide (x.2.dot=d)).map (·.2)
theorem QA {t:Tr}(h:t.Ord){p:List ByteArray}{d:Dt}{e:En}:stE t p d=some e↔((p,e):Lf)∈t.lvs []/\e.dot=d:=by
 unfold stE
 constructor
 ·intro hs
  obtain⟨⟨q,f⟩,h1,h2⟩:=Option.map_eq_some_iff.1 hs
  have h3:=List.find?_some h1
  have h4:=List.mem_of_find?_eq_some h1
  simp at h2 h3
  obtain⟨rfl,h3⟩:=h3
  subst h2
  exact⟨h4,h3⟩
 ·rintro⟨hm,hd⟩
  cases hf:(t.lvs []).find? fun x=>decide (x.1=p)&&decide (x.2.dot=d) with
  |none=>
   have:=List.find?_eq_none.1 hf _ hm
   simp[hd]at this
  |some y=>
   have h3:=List.find?_some hf
   have h4:=List.mem_of_find?_eq_some hf
   simp at h3
   have:=(Xx t h).one y h4 (p,e) hm h3.1 (h3.2.trans hd.symm)
   subst this;rfl
theorem JE {t:Tr}(h:t.Ord){p:List ByteArray}{d:Dt}:stE t p d=none↔∀ e,((p,e):Lf)∈t.lvs []->e.dot≠d:=by
 constructor
 ·intro hs e hm hd
  rw[(QA h).2 ⟨hm,hd⟩]at hs;cases hs
 ·intro hn
  cases hs:stE t p d with
  |none=>rfl
  |some e=>exact absurd ((QA h).1 hs).2 (hn e ((QA h).1 hs).1)
def jnO (x:Option En)(k:Bool)(y:Option En)(l:Bool):Option En:=
 match x,y with
 |some x,some y=>some (grtE x y)
 |some x,none=>if l then none else some x
 |none,some y=>if k then none else some y
 |none,none=>none
theorem zXw {t s:Tr}{ca cb:List Sp}(ht:t.Ord)(hs:s.Ord)(hca:Qm ca=true)(hcb:Qm cb=true)(p:List ByteArray)(d:Dt)(e:En) :
  (EntJ ca cb (fun x=>((p,x):Lf)∈t.lvs []) (fun y=>((p,y):Lf)∈s.lvs []) e/\e.dot=d)↔jnO (stE t p d) (hasC ca d) (stE s p d) (hasC cb d)=some e:=by
 unfold EntJ
 simp only[XM hca,XM hcb]
 cases h1:stE t p d with
 |none=>
  have n1:=(JE ht).1 h1
  cases h2:stE s p d with
  |none=>
   have n2:=(JE hs).1 h2
   constructor
   ·rintro⟨⟨x,y,hx,hy,hd,rfl⟩|⟨hx,_⟩|⟨hx,_⟩,hd'⟩
    ·rw[Z8 hd]at hd';exact absurd hd' (n1 x hx)
    ·exact absurd hd' (n1 e hx)
    ·exact absurd hd' (n2 e hx)
   ·intro h;cases h
  |some y=>
   obtain⟨hy,hyd⟩:=(QA hs).1 h2
   constructor
   ·rintro⟨⟨x,y,hx,hy,hd,rfl⟩|⟨hx,_⟩|⟨hx,hn,hh⟩,hd'⟩
    ·rw[Z8 hd]at hd';exact absurd hd' (n1 x hx)
    ·exact absurd hd' (n1 e hx)
    ·have:=(QA hs).2 ⟨hx,hd'⟩
     rw[h2]at this
     cases this
     rw[hd']at hh
     simp[jnO,hh]
   ·intro h
    unfold jnO at h
    simp only at h
    split at h
    ·cases h
    ·rename_i hh
     cases h
     exact⟨.inr (.inr ⟨hy,fun x hx hxd=>n1 x hx (hxd.trans hyd),by rw[hyd];simpa using hh⟩),hyd⟩
 |some x=>
  obtain⟨hx,hxd⟩:=(QA ht).1 h1
  cases h2:stE s p d with
  |none=>
   have n2:=(JE hs).1 h2
   constructor
   ·rintro⟨⟨x',y,hx',hy,hd,rfl⟩|⟨hx',hn,hh⟩|⟨hx',hn,hh⟩,hd'⟩
    ·rw[Z8 hd]at hd';exact absurd (hd.symm.trans hd') (n2 y hy)
    ·have:=(QA ht).2 ⟨hx',hd'⟩
     rw[h1]at this
     cases this
     rw[hd']at hh
     simp[jnO,hh]
    ·exact absurd hd' (n2 e hx')
   ·intro h
    unfold jnO at h
    simp only at h
    split at h
    ·cases h
    ·rename_i hh
     cases h
     exact⟨.inr (.inl ⟨hx,fun y hy hyd=>n2 y hy (hyd.trans hxd),by rw[hxd];simpa using hh⟩),hxd⟩
  |some y=>
   obtain⟨hy,hyd⟩:=(QA hs).1 h2
   constructor
   ·rintro⟨⟨x',y',hx',hy',hd,rfl⟩|⟨hx',hn,hh⟩|⟨hx',hn,hh⟩,hd'⟩
    ·rw[Z8 hd]at hd'
     have e1:=(QA ht).2 ⟨hx',hd'⟩
     have e2:=(QA hs).2 ⟨hy',hd.symm.trans hd'⟩
     rw[h1]at e1;rw[h2]at e2
     cases e1;cases e2
     rfl
    ·exact absurd (hyd.trans hd'.symm) (hn y hy)
    ·exact absurd (hxd.trans hd'.symm) (hn x hx)
   ·intro h
    unfold jnO at h
    cases h
    exact⟨.inl ⟨x,y,hx,hy,hxd.trans hyd.symm,rfl⟩,(Z8 (hxd.trans hyd.symm)).trans hxd⟩
theorem Yc {a b:Tr}{ca cb:List Sp}(ha:CaOk a ca)(hb:CaOk b cb)(p:List ByteArray)(d:Dt):stE (jT a b ca cb) p d=jnO (stE a p d) (hasC ca d) (stE b p d) (hasC cb d):=by
 refine Option.ext fun e=>?_
 rw[QA (jT_ok ha hb).ord,←zXw ha.ord hb.ord ha.ap hb.ap,qWa ha hb]
theorem Q7 {a:Tr}{ca:List Sp}(ha:CaOk a ca){p:List ByteArray}{d:Dt}{e:En}(h:stE a p d=some e):hasC ca d=true/\e.dot=d:=by
 obtain⟨h1,h2⟩:=(QA ha.ord).1 h
 exact⟨by rw[←h2];exact ha.has _ h1,h2⟩
theorem CaOk.ext2 {s t:Tr}{c d:List Sp}(h:CaOk s c)(k:CaOk t d)(hl:∀ p x,stE s p x=stE t p x)(hd:∀ x,hasC c x=hasC d x):s=t/\c=d:=by
 refine h.ext k (fun p e=>?_) hd
 have h1:=@QA s h.ord p e.dot e
 have h2:=@QA t k.ord p e.dot e
 rw[hl]at h1
 simp only[and_true]at h1 h2
 exact h1.symm.trans h2
theorem qQ0 {a b:Tr}{ca cb:List Sp}(ha:CaOk a ca)(hb:CaOk b cb):jT a b ca cb=jT b a cb ca/\jC ca cb=jC cb ca:=by
 refine (jT_ok ha hb).ext2 (jT_ok hb ha) (fun p d=>?_) fun d=>?_
 ·rw[Yc ha hb,Yc hb ha]
  cases h:stE a p d<;>cases k:stE b p d<;>simp[jnO]
  exact zQw ((Q7 ha h).2.trans (Q7 hb k).2.symm)
 ·rw[QH ha.ap hb.ap,QH hb.ap ha.ap,Bool.or_comm]
theorem Vg {a b c:Tr}{ca cb cc:List Sp}(ha:CaOk a ca)(hb:CaOk b cb)(hc:CaOk c cc):jT (jT a b ca cb) c (jC ca cb) cc=jT a (jT b c cb cc) ca (jC cb cc)/\jC (jC ca cb) cc=jC ca (jC cb cc):=by
 have hab:=jT_ok ha hb
 have hbc:=jT_ok hb hc
 refine (jT_ok hab hc).ext2 (jT_ok ha hbc) (fun p d=>?_) fun d=>?_
 ·rw[Yc hab hc,Yc ha hbc,Yc ha hb,Yc hb hc,QH ha.ap hb.ap,QH hb.ap hc.ap]
  cases h1:stE a p d with
  |none=>
   cases h2:stE b p d with
   |none=>cases h3:stE c p d<;>cases hasC ca d<;>cases hasC cb d<;>cases hasC cc d<;>rfl
   |some y=>
    have g2:=(Q7 hb h2).1
    cases h3:stE c p d with
    |none=>rw[g2];cases hasC ca d<;>cases hasC cc d<;>rfl
    |some z=>rw[g2,(Q7 hc h3).1];cases hasC ca d<;>rfl
  |some x=>
   have g1:=(Q7 ha h1).1
   cases h2:stE b p d with
   |none=>
    cases h3:stE c p d with
    |none=>rw[g1];cases hasC cb d<;>cases hasC cc d<;>rfl
    |some z=>rw[g1,(Q7 hc h3).1];cases hasC cb d<;>rfl
   |some y=>
    have g2:=(Q7 hb h2).1
    cases h3:stE c p d with
    |none=>rw[g1,g2];cases hasC cc d<;>rfl
    |some z=>
     rw[g1,g2,(Q7 hc h3).1]
     simp only[jnO]
     rw[qWe ((Q7 ha h1).2.trans (Q7 hb h2).2.symm) ((Q7 hb h2).2.trans (Q7 hc h3).2.symm)]
 ·rw[QH hab.ap hc.ap,QH ha.ap hb.ap,QH ha.ap hbc.ap,QH hb.ap hc.ap,Bool.or_assoc]
theorem CaOk.nil:CaOk (.mk [] []) []:=⟨qZs,fun x h=>by simp[Tr.lvs,Tr.lvsL]at h,Ke,fun x h=>by simp[Tr.lvs,Tr.lvsL]at h⟩
theorem qYs {a:Tr}{ca:List Sp}(ha:CaOk a ca):jT (.mk [] []) a [] ca=a/\jC [] ca=ca:=by
 refine (jT_ok CaOk.nil ha).ext2 ha (fun p d=>?_) fun d=>?_
 ·rw[Yc CaOk.nil ha,XN]
  cases h:stE a p d<;>simp[jnO,stE,Tr.lvs,Tr.lvsL]
 ·rw[QH Ke ha.ap,XN,Bool.false_or]
theorem ZA {t:Tr}{d:Dt}(h:chkT t d=true):t.right 5=true/\d.right=true/\d∉t.dots:=by
 unfold chkT at h
 rw[Bool.and_eq_true,Bool.and_eq_true]at h
 refine⟨h.1.1,h.1.2,fun hm=>?_⟩
 rw[(YL h.1.1).2 hm]at h
 simp at h
theorem zQx {t:Tr}{d x:Dt}(h:t.right 5=true)(hd:d.right=true):hasC (seenC t d) x=true↔x∈t.dots∨x=d:=by
 have hr:∀ y∈[d],y.right=true:=fun y hy=>by simp at hy;subst hy;exact hd
 unfold seenC
 rw[QH (Qr (QI h)) (Qr hr),Bool.or_eq_true,YL h]
 refine or_congr Iff.rfl ?_
 constructor
 ·intro hc;rw[ZP hr (Y3 hc)]at hc;simpa using hc
 ·rintro rfl;rw[ZP hr hd];simp
theorem qKf {t:Tr}{d:Dt}(h:t.right 5=true)(hd:d.right=true):Qm (seenC t d)=true:=
 Y2 (Qr (QI h)) (Qr fun y hy=>by simp at hy;subst hy;exact hd) 0
theorem zZ5 {c:List Sp}(hc:Qm c=true):CaOk (.mk [] []) c:=⟨qZs,fun x h=>by simp[Tr.lvs,Tr.lvsL]at h,hc,fun x h=>by simp[Tr.lvs,Tr.lvsL]at h⟩
theorem zXx (p:List ByteArray)(d:Dt):stE (.mk [] []) p d=none:=by simp[stE,Tr.lvs,Tr.lvsL]
theorem qWf {t:Tr}{d x:Dt}(h:t.right 5=true)(hd:d.right=true):hasC (seenC t d) x=(decide (x∈t.dots)||decide (x=d)):=by
 rw[Bool.eq_iff_iff,zQx h hd];simp
def kz:List Kd->ByteArray->Nat
 |[],_=>0
 |(k,t) :: ks,q=>if k=q then 1+t.sz else kz ks q
theorem zZ6 (ks:List Kd)(q:ByteArray)(es:List En):(kidT (.mk es ks) q).sz<=kz ks q/\((∃ t,(q,t)∈ks)->(kidT (.mk es ks) q).sz+1<=kz ks q):=by
 unfold kidT
 simp only[Tr.ks]
 induction ks with
 |nil=>simp[kz,Tr.sz,Tr.szL]
 |cons y ks ih=>
  obtain⟨k,t⟩:=y
  rw[kz,List.find?_cons]
  by_cases h:k=q
  ·subst h;simp;omega
  ·simp only[h,decide_false,if_false]
   refine⟨ih.1,fun ⟨t',hm⟩=>ih.2 ⟨t',?_⟩⟩
   rcases List.mem_cons.1 hm with e|hm
   ·cases e;exact absurd rfl h
   ·exact hm
theorem qWg (c:Nat)(q:ByteArray):∀ (K:List ByteArray),K.Nodup->(K.map fun k=>if q=k then c else 0).sum<=c
 |[],_=>by simp
 |k :: K,h=>by
  obtain⟨h1,h2⟩:=List.nodup_cons.1 h
  rw[List.map_cons,List.sum_cons]
  by_cases e:q=k
  ·have:(K.map fun k=>if q=k then c else 0).sum=0:=by
    have hz:(K.map fun k=>if q=k then c else 0)=K.map fun _=>0:=List.map_congr_left fun x hx=>by
     rw[if_neg];rintro rfl;exact h1 (e▸hx)
    rw[hz];clear hz h1 h2 h
    induction K with
    |nil=>rfl
    |cons _ _ ih=>simp[ih]
   rw[if_pos e,this];omega
  ·rw[if_neg e];have:=qWg c q K h2;omega
theorem zZ7 {α:Type}(f g:α->Nat):∀ (K:List α),(∀ k∈K,f k<=g k)->(K.map f).sum<=(K.map g).sum
 |[],_=>by simp
 |k :: K,h=>by
  have h1:=h k (by simp)
  have h2:=zZ7 f g K fun k hk=>h k (by simp[hk])
  simp only[List.map_cons,List.sum_cons];omega
theorem qZ9 {α:Type}(f g:α->Nat):∀ (K:List α),(K.map fun k=>f k+g k).sum=(K.map f).sum+(K.map g).sum
 |[]=>by simp
 |k :: K=>by
  have h2:=qZ9 f g K
  simp only[List.map_cons,List.sum_cons]at h2 ⊢;omega
theorem qWh:∀ (ks:List Kd) (K:List ByteArray),K.Nodup->(K.map (kz ks)).sum<=Tr.szL ks
 |[],K,_=>by
  have:K.map (kz [])=K.map fun _=>0:=List.map_congr_left fun _ _=>rfl
  rw[this]
  have:∀ K:List ByteArray,(K.map fun _=>0).sum=0:=fun K=>by induction K with|nil=>rfl|cons _ _ ih=>simp[ih]
  rw[this];exact Nat.zero_le _
 |(k,t) :: ks,K,h=>by
  have h1:=qWh ks K h
  have h2:=qWg (1+t.sz) k K h
  have h3:=zZ7 (kz ((k,t) :: ks)) (fun q=>(if k=q then 1+t.sz else 0)+kz ks q) K fun q _=>by rw[kz];split<;>omega
  rw[qZ9]at h3
  rw[Tr.szL];omega
theorem qYt (f:ByteArray->Tr)(g:ByteArray->Nat):∀ (K:List ByteArray),(∀ k∈K,(f k).sz+1<=g k)->Tr.szL (K.flatMap (joinF f))<=(K.map g).sum
 |[],_=>by simp[Tr.szL]
 |k :: K,h=>by
  have h1:=h k (by simp)
  have h2:=qYt f g K fun k hk=>h k (by simp[hk])
  rw[List.flatMap_cons,List.map_cons,List.sum_cons]
  unfold joinF at h2 ⊢
  split
  ·simp;omega
  ·simp[Tr.szL];omega
theorem qYu {K:List ByteArray}(h:K.Pairwise fun a b=>ltS a b=true):K.Nodup:=
 h.imp fun {a b} hab e=>by subst e;rw[Qw]at hab;cases hab
theorem zXy (ca cb:List Sp):∀ (n:Nat) (a b:Tr),a.Ord->b.Ord->a.dep<=n->b.dep<=n->(joinT n ca cb a b).sz<=a.sz+b.sz:=by
 intro n
 induction n with
 |zero=>intro a b _ _ h _;have:=J8 a;omega
 |succ n ih=>
 intro a b ha hb hda hdb
 obtain⟨hk1,hk2⟩:=Vc a b
 have hN:=qYu hk1
 rw[joinT,Tr.sz]
 have h1:=Yw ca cb _ a.es b.es (Nat.le_refl _)
 have h2:=qYt (fun k=>joinT n ca cb (kidT a k) (kidT b k)) (fun k=>kz a.ks k+kz b.ks k) (joinK a b) fun k hk=>by
  have h3:=ih (kidT a k) (kidT b k) (ZJ ha k) (ZJ hb k) (YZ ha hda (YK hda hdb hk) k) (YZ hb hdb (YK hda hdb hk) k)
  have h4:=zZ6 a.ks k a.es
  have h5:=zZ6 b.ks k b.es
  have e1:Tr.mk a.es a.ks=a:=by cases a;rfl
  have e2:Tr.mk b.es b.ks=b:=by cases b;rfl
  rw[e1]at h4
  rw[e2]at h5
  obtain⟨t,h|h⟩:=(hk2 k).1 hk
  ·have:=h4.2 ⟨t,h⟩;omega
  ·have:=h5.2 ⟨t,h⟩;omega
 rw[qZ9]at h2
 have h3:=qWh a.ks _ hN
 have h4:=qWh b.ks _ hN
 have e1:a.sz=a.es.length+Tr.szL a.ks:=by cases a;rw[Tr.sz];rfl
 have e2:b.sz=b.es.length+Tr.szL b.ks:=by cases b;rw[Tr.sz];rfl
 omega
theorem jT_sz {a b:Tr}{ca cb:List Sp}(ha:CaOk a ca)(hb:CaOk b cb):(jT a b ca cb).sz<=a.sz+b.sz:=zXy ca cb 6 a b ha.ord hb.ord ha.dep hb.dep
theorem XO {a b:List (Int×Int)}(ha:runsR none a=true)(hb:runsR none b=true):(byL a b 0).length<=a.length+b.length:=by
 have hp:=List.mergeSort_perm (a++b) fun x y=>decide (x.1<=y.1)
 have hs:((a++b).mergeSort fun x y=>decide (x.1<=y.1)).Pairwise fun x y=>x.1<=y.1:=
  (List.pairwise_mergeSort (fun a b c h k=>by simp at h k ⊢;omega) (fun a b=>by simp;omega) (a++b)).imp fun h=>by simpa using h
 rw[←KZ ha hb hp hs]
 have h:=XD ((a++b).mergeSort fun x y=>decide (x.1<=y.1)) (((a++b).mergeSort fun x y=>decide (x.1<=y.1)).length)
 rw[List.take_of_length_le (Nat.le_refl _),hp.length_eq,List.length_append]at h
 exact h
theorem qWi (c:List Sp)(h:∀ s∈c,0<=s.dc/\s.dc<4):(partL c 0).length+(partL c 1).length+(partL c 2).length+(partL c 3).length=c.length:=by
 induction c with
 |nil=>rfl
 |cons s c ih=>
  have h1:=ih fun s hs=>h s (by simp[hs])
  have h2:=h s (by simp)
  obtain⟨dc,fr,hi⟩:=s
  simp only at h2
  have h3:dc=0∨dc=1∨dc=2∨dc=3:=by omega
  unfold partL at h1 ⊢
  simp only[List.length_map]at h1 ⊢
  rcases h3 with rfl|rfl|rfl|rfl<;>simp<;>omega
theorem zY7 {a b:List Sp}(ha:Qm a=true)(hb:Qm b=true):(jC a b).length<=a.length+b.length:=by
 have h:=Y2 ha hb 0
 have hdc:∀ {c:List Sp},Qm c=true->∀ s∈c,0<=s.dc/\s.dc<4:=fun {c} hc=>ZX c 0 (by unfold Qm at hc;rw[Bool.and_eq_true]at hc;exact hc.1)
 have e1:=qWi a (hdc ha)
 have e2:=qWi b (hdc hb)
 have e3:=qWi (jC a b) (hdc h)
 have p0:partL (jC a b) 0=byL (partL a 0) (partL b 0) 0:=Yp a b 0 (i:=0) (by omega)
 have p1:partL (jC a b) 1=byL (partL a 1) (partL b 1) 0:=Yp a b 0 (i:=1) (by omega)
 have p2:partL (jC a b) 2=byL (partL a 2) (partL b 2) 0:=Yp a b 0 (i:=2) (by omega)
 have p3:partL (jC a b) 3=byL (partL a 3) (partL b 3) 0:=Yp a b 0 (i:=3) (by omega)
 have u0:(byL (partL a 0) (partL b 0) 0).length<=(partL a 0).length+(partL b 0).length:=XO (Qx ha (i:=0) (by omega)) (Qx hb (i:=0) (by omega))
 have u1:(byL (partL a 1) (partL b 1) 0).length<=(partL a 1).length+(partL b 1).length:=XO (Qx ha (i:=1) (by omega)) (Qx hb (i:=1) (by omega))
 have u2:(byL (partL a 2) (partL b 2) 0).length<=(partL a 2).length+(partL b 2).length:=XO (Qx ha (i:=2) (by omega)) (Qx hb (i:=2) (by omega))
 have u3:(byL (partL a 3) (partL b 3) 0).length<=(partL a 3).length+(partL b 3).length:=XO (Qx ha (i:=3) (by omega)) (Qx hb (i:=3) (by omega))
 rw[←p0]at u0
 rw[←p1]at u1
 rw[←p2]at u2
 rw[←p3]at u3
 omega
abbrev Kn:=Tr×List Sp
abbrev KOk (x:Kn):Prop:=CaOk x.1 x.2
def jn (x y:Kn):Kn:=(jT x.1 y.1 x.2 y.2,jC x.2 y.2)
def kn0:Kn:=(.mk [] [],[])
theorem qQ1:KOk kn0:=CaOk.nil
theorem qQ2 {x y:Kn}(hx:KOk x)(hy:KOk y):KOk (jn x y):=jT_ok hx hy
theorem qWj {x y:Kn}(hx:KOk x)(hy:KOk y):jn x y=jn y x:=Prod.ext (qQ0 hx hy).1 (qQ0 hx hy).2
theorem VL {x y z:Kn}(hx:KOk x)(hy:KOk y)(hz:KOk z):jn (jn x y) z=jn x (jn y z):=Prod.ext (Vg hx hy hz).1 (Vg hx hy hz).2
theorem qWk {x:Kn}(hx:KOk x):jn kn0 x=x:=Prod.ext (qYs hx).1 (qYs hx).2
theorem zQy {x y z:Kn}(hx:KOk x)(hy:KOk y)(hz:KOk z):jn (jn x y) z=jn (jn x z) y:=by
 rw[VL hx hy hz,qWj hy hz,VL hx hz hy]
theorem jn_sz {x y:Kn}(hx:KOk x)(hy:KOk y):(jn x y).1.sz<=x.1.sz+y.1.sz/\(jn x y).2.length<=x.2.length+y.2.length:=⟨jT_sz hx hy,zY7 hx.ap hy.ap⟩
def jnL (l:List Kn):Kn:=l.foldl jn kn0
theorem qKg {l m:List Kn}(hp:l.Perm m):∀ z,KOk z->(∀ x∈l,KOk x)->l.foldl jn z=m.foldl jn z:=by
 induction hp with
 |nil=>intro z _ _;rfl
 |cons x _ ih=>intro z hz h;exact ih (jn z x) (qQ2 hz (h x (by simp))) fun y hy=>h y (by simp[hy])
 |swap x y l=>intro z hz h;simp only[List.foldl_cons];rw[zQy hz (h y (by simp)) (h x (by simp))]
 |trans h1 _ ih1 ih2=>intro z hz h;rw[ih1 z hz h,ih2 z hz fun x hx=>h x (h1.symm.subset hx)]
theorem zQz {l m:List Kn}(hp:l.Perm m)(h:∀ x∈l,KOk x):jnL l=jnL m:=qKg hp kn0 qQ1 h
theorem qWl {x y z:Kn}(hx:KOk x):jnL [x,y,z]=jn (jn x y) z:=by show jn (jn (jn kn0 x) y) z=_;rw[qWk hx]
theorem jn_st {x y:Kn}(hx:KOk x)(hy:KOk y)(p:List ByteArray)(d:Dt):stE (jn x y).1 p d=jnO (stE x.1 p d) (hasC x.2 d) (stE y.1 p d) (hasC y.2 d):=Yc hx hy p d
theorem Kf {x y:Kn}(hx:KOk x)(hy:KOk y)(d:Dt):hasC (jn x y).2 d=(hasC x.2 d||hasC y.2 d):=QH hx.ap hy.ap d
theorem zQ1 {t:Tr}(ho:t.Ord){s:ByteArray}{x:Dt}(h:x∈(kidT t s).dots):x∈t.dots:=by
 obtain⟨p,e,hx,rfl⟩:=(Yb _ _).1 h
 exact (Yb t _).2 ⟨s :: p,e,(Xy ho).1 hx,rfl⟩
theorem Vh {t:Tr}(h:t.right 5=true)(s:ByteArray):(kidT t s).right 5=true:=qX9 _ 4 5 (KP (n:=4) h (by omega) s) (by omega)
theorem qWn {t:Tr}{x:ByteArray}:x∈elL t.ks↔∃ e,(([x],e):Lf)∈t.lvs []:=by
 obtain⟨es,ks⟩:=t
 unfold elL
 constructor
 ·intro h
  obtain⟨⟨k,u⟩,hu,rfl⟩:=List.mem_map.1 h
  obtain⟨hu1,hu2⟩:=List.mem_filter.1 hu
  obtain⟨es',ks'⟩:=u
  have hp:0<es'.length:=of_decide_eq_true (show decide (0<es'.length)=true from hu2)
  obtain⟨e,he⟩:=List.exists_mem_of_length_pos hp
  exact⟨e,Qt.2 ⟨_,hu1,Zp.2 he⟩⟩
 ·rintro⟨e,he⟩
  obtain⟨u,hu,hx⟩:=Qt.1 he
  have h1:=ZE.1 hx
  have h2:=List.length_pos_of_mem h1
  exact List.mem_map.2 ⟨(x,u),List.mem_filter.2 ⟨hu,by simpa[elP] using h2⟩,rfl⟩
theorem Vi {t:Tr}(ho:t.Ord):(elL t.ks).Pairwise fun a b=>ltS a b=true:=by
 obtain⟨es,ks⟩:=t
 exact List.pairwise_map.2 ((QO.1 ho).2.1.filter _)
theorem Kg {t:Tr}(h:t.right 5=true):Q0 t=elL t.ks:=by unfold Q0;rw[h];rfl
theorem zZ8 {α β:Type}{f:α->β}:∀ {l:List α},(l.map f).Nodup->∀ x∈l,∀ y∈l,f x=f y->x=y
 |a :: l,h,x,hx,y,hy,e=>by
  rw[List.map_cons,List.nodup_cons]at h
  rcases List.mem_cons.1 hx with h1|h1
  ·rcases List.mem_cons.1 hy with h2|h2
   ·rw[h1,h2]
   ·subst h1;exact absurd (List.mem_map.2 ⟨y,h2,e.symm⟩) h.1
  ·rcases List.mem_cons.1 hy with h2|h2
   ·subst h2;exact absurd (List.mem_map.2 ⟨x,h1,e⟩) h.1
   ·exact zZ8 h.2 x h1 y h2 e
def updE (t:Tr)(key:ByteArray)(D:Tr)(c:List Sp):Int:=
 if !(t.right 5)||!caR D c||!keyB key then 1 else if !empB D.es.length D.ks.length&&decide (24<=t.ks.length)&&!(t.ks.any fun y=>decide (y.1=key)) then 4 else wrapE D key
def updT (t:Tr)(key:ByteArray)(D:Tr)(c:List Sp):Tr:=if updE t key D c=0 then wrapT D key else .mk [] []
def updC (t:Tr)(key:ByteArray)(D:Tr)(c:List Sp):List Sp:=if updE t key D c=0 then c else []
theorem Q4 {w3:World}{b:Nat}{x0 x1 x2:Value}{a:Addr}{v:Value}(hne:b≠a.block)(h:w3.cell? a=some v) :
  (((w3.setCell ⟨b,0,none⟩ x0).setCell ⟨b,1,none⟩ x1).setCell ⟨b,2,none⟩ x2).cell? a=some v:=by
 rw[World.cell?_setCell_far _ _ _ _ hne,World.cell?_setCell_far _ _ _ _ hne,World.cell?_setCell_far _ _ _ _ hne];exact h
theorem Kh (t D:Tr)(c:List Sp)(key:ByteArray)(ve vk xe xk xc:Value)(w:World)(h:t.rd w w.heap.size ve vk)(hD:D.rd w w.heap.size xe xk)(hc:SlP w w.heap.size 3 SpE xc c)(hkey:key.size<=Big)(hN:t.sz<=4000)(hN':D.sz<=4000)(hN2:c.length<=20000) :
  Calls Tryz.prog 100 #[.agg #[ve,vk],.string key,.agg #[xe,xk,xc]] w (RetCE w (updT t key D c) (updC t key D c) (updE t key D c)):=by
 have HT:Hid (∀ w',Below w.heap.size w w'->t.rd w' w'.heap.size ve vk):=fun w' hb=>Qi hb hb.size _ _ _ h
 have HD:Hid (∀ w',Below w.heap.size w w'->D.rd w' w'.heap.size xe xk):=fun w' hb=>Qi hb hb.size _ _ _ hD
 have HC:Hid (∀ w',Below w.heap.size w w'->SlP w' w'.heap.size 3 SpE xc c):=fun w' hb=>hc.imp hb hb.size fun _ _ _ h=>h
 have HKS:Hid (∀ w',Below w.heap.size w w'->SlP w' w'.heap.size 3 (KdE w' w'.heap.size) vk t.ks):=fun w' hb=>by
  have:=HT.out w' hb;obtain⟨es,ks⟩:=t;exact (QE.1 this).2
 obtain⟨A3,n3,A4,n4,rfl,rfl⟩:=Qk h
 obtain⟨A5,n5,A6,n6,rfl,rfl⟩:=Qk hD
 obtain⟨A7,n7,rfl,_⟩:=hc
 have hkb:key.size<=140737488355328:=hkey
 clear h hD
 have hb0:Below w.heap.size w ((((w.alloc (.cells #[.slice A3 t.es.length n3,.slice A4 t.ks.length n4] 25)).alloc (.cells #[.string key] 9)).alloc (.cells #[.slice A5 D.es.length n5,.slice A6 D.ks.length n6,.slice A7 c.length n7] 29)).alloc (.cells #[.slice none 0 0,.slice none 0 0,.slice none 0 0] 29)):=
  ((((Below.refl _ w).alloc (Nat.le_refl _) _).alloc (by simp) _).alloc (by simp<;>omega) _).alloc (by simp<;>omega) _
 have HW:Hid (∀ w',Below (w.heap.size+4) ((((w.alloc (.cells #[.slice A3 t.es.length n3,.slice A4 t.ks.length n4] 25)).alloc (.cells #[.string key] 9)).alloc (.cells #[.slice A5 D.es.length n5,.slice A6 D.ks.length n6,.slice A7 c.length n7] 29)).alloc (.cells #[.slice none 0 0,.slice none 0 0,.slice none 0 0] 29)) w' ->
   Below w.heap.size w w'/\w.heap.size+4<=w'.heap.size/\w'.heap[w.heap.size]?=some (.cells #[.slice A3 t.es.length n3,.slice A4 t.ks.length n4] 25 (0,0))/\w'.heap[w.heap.size+1]?=some (.cells #[.string key] 9 (0,0)) /\
   w'.heap[w.heap.size+2]?=some (.cells #[.slice A5 D.es.length n5,.slice A6 D.ks.length n6,.slice A7 c.length n7] 29 (0,0))/\w'.heap[w.heap.size+3]?=some (.cells #[.slice none 0 0,.slice none 0 0,.slice none 0 0] 29 (0,0))):=fun w' hb=>
  ⟨hb0.trans (hb.mono (by omega)),by have:=hb.size;simpa using this,(hb.block _ (by omega)).trans ((Qg (by simp<;>omega)).trans ((Qg (by simp<;>omega)).trans ((Qg (by simp)).trans (Qd rfl)))),(hb.block _ (by omega)).trans ((Qg (by simp<;>omega)).trans ((Qg (by simp)).trans (Qd (by simp)))),(hb.block _ (by omega)).trans ((Qg (by simp)).trans (Qd (by simp))),(hb.block _ (by omega)).trans (Qd (by simp))⟩
 go_enter Tryz.func100,Tryz.ntmps100
 go_wp2_with fail
 refine (QG t _ _ _ (HT.out _ hb0)).mono ?_
 rintro e w1 ⟨rfl,hb1⟩
 have hb1':=hid (hb1.mono (show w.heap.size+4<=_ by simp))
 obtain⟨hB1,hs1,g3,g4,g5,g6⟩:=HW.out _ hb1'.out
 have HG6:=hid g6
 have c0:w1.cell? ⟨w.heap.size,0,none⟩=some (.slice A3 t.es.length n3):=Qa (i:=0) g3
 have c1:w1.cell? ⟨w.heap.size,1,none⟩=some (.slice A4 t.ks.length n4):=Qa (i:=1) g3
 have d0:w1.cell? ⟨w.heap.size+1,0,none⟩=some (.string key):=Qa (i:=0) g4
 have e0:w1.cell? ⟨w.heap.size+2,0,none⟩=some (.slice A5 D.es.length n5):=Qa (i:=0) g5
 have e1:w1.cell? ⟨w.heap.size+2,1,none⟩=some (.slice A6 D.ks.length n6):=Qa (i:=1) g5
 have e2:w1.cell? ⟨w.heap.size+2,2,none⟩=some (.slice A7 c.length n7):=Qa (i:=2) g5
 have k0:w1.cell? ⟨w.heap.size+3,0,none⟩=some (.slice none 0 0):=Qa (i:=0) g6
 have k1:w1.cell? ⟨w.heap.size+3,1,none⟩=some (.slice none 0 0):=Qa (i:=1) g6
 have k2:w1.cell? ⟨w.heap.size+3,2,none⟩=some (.slice none 0 0):=Qa (i:=2) g6
 have z0:=Qb (i:=0) g6
 have z1:=Qb (i:=1) g6
 have z2:=Qb (i:=2) g6
 clear g3 g4 g5 g6
 clear hb1
 cases hr:t.right 5
 ·have HE:Hid (updE t key D c=1):=by unfold Hid updE;rw[hr];rfl
  have HTT:Hid (updT t key D c=.mk [] []):=by unfold Hid updT;rw[HE.out];rfl
  have HCC:Hid (updC t key D c=[]):=by unfold Hid updC;rw[HE.out];rfl
  clear hr
  go_wp2_with fail
  obtain⟨r0,r1,r2,hK,hS⟩:=box3 HG6.out (.slice none 0 0) (.slice none 0 0) (.slice none 0 0)
  have hBW:=((hB1.setCell (p:=⟨w.heap.size+3,0,none⟩) (by simp) (.slice none 0 0)).setCell (p:=⟨w.heap.size+3,1,none⟩) (by simp) (.slice none 0 0)).setCell (p:=⟨w.heap.size+3,2,none⟩) (by simp) (.slice none 0 0)
  refine bodyPost_ret (v:=.tuple #[.agg #[.slice none 0 0,.slice none 0 0,.slice none 0 0],.int .i64 1]) (by simp[results,Tryz.results100,go_sem,r0,r1,r2]) rfl ⟨_,_,_,by rw[HE.out],by rw[HTT.out];exact Qo _ _,by rw[HCC.out];exact SlA.nil,hBW⟩
 go_wp2_with fail
 refine (QT D c _ _ _ w1 (HD.out _ hB1) (HC.out _ hB1) hN' hN2).mono ?_
 rintro e w2 ⟨rfl,hb2⟩
 clear c0 c1 d0 e0 e1 e2 k0 k1 k2 z0 z1 z2 HG6
 have hb2':=hid (hb1'.out.trans (hb2.mono hs1))
 obtain⟨hB2,hs2,g3,g4,g5,g6⟩:=HW.out _ hb2'.out
 have HG6:=hid g6
 have c0:w2.cell? ⟨w.heap.size,0,none⟩=some (.slice A3 t.es.length n3):=Qa (i:=0) g3
 have c1:w2.cell? ⟨w.heap.size,1,none⟩=some (.slice A4 t.ks.length n4):=Qa (i:=1) g3
 have d0:w2.cell? ⟨w.heap.size+1,0,none⟩=some (.string key):=Qa (i:=0) g4
 have e0:w2.cell? ⟨w.heap.size+2,0,none⟩=some (.slice A5 D.es.length n5):=Qa (i:=0) g5
 have e1:w2.cell? ⟨w.heap.size+2,1,none⟩=some (.slice A6 D.ks.length n6):=Qa (i:=1) g5
 have e2:w2.cell? ⟨w.heap.size+2,2,none⟩=some (.slice A7 c.length n7):=Qa (i:=2) g5
 have k0:w2.cell? ⟨w.heap.size+3,0,none⟩=some (.slice none 0 0):=Qa (i:=0) g6
 have k1:w2.cell? ⟨w.heap.size+3,1,none⟩=some (.slice none 0 0):=Qa (i:=1) g6
 have k2:w2.cell? ⟨w.heap.size+3,2,none⟩=some (.slice none 0 0):=Qa (i:=2) g6
 have z0:=Qb (i:=0) g6
 have z1:=Qb (i:=1) g6
 have z2:=Qb (i:=2) g6
 clear g3 g4 g5 g6
 clear hb2
 cases hq:caR D c
 ·have HE:Hid (updE t key D c=1):=by unfold Hid updE;rw[hr,hq];rfl
  have HTT:Hid (updT t key D c=.mk [] []):=by unfold Hid updT;rw[HE.out];rfl
  have HCC:Hid (updC t key D c=[]):=by unfold Hid updC;rw[HE.out];rfl
  clear hr hq
  go_wp2_with fail
  obtain⟨r0,r1,r2,hK,hS⟩:=box3 HG6.out (.slice none 0 0) (.slice none 0 0) (.slice none 0 0)
  have hBW:=((hB2.setCell (p:=⟨w.heap.size+3,0,none⟩) (by simp) (.slice none 0 0)).setCell (p:=⟨w.heap.size+3,1,none⟩) (by simp) (.slice none 0 0)).setCell (p:=⟨w.heap.size+3,2,none⟩) (by simp) (.slice none 0 0)
  refine bodyPost_ret (v:=.tuple #[.agg #[.slice none 0 0,.slice none 0 0,.slice none 0 0],.int .i64 1]) (by simp[results,Tryz.results100,go_sem,r0,r1,r2]) rfl ⟨_,_,_,by rw[HE.out],by rw[HTT.out];exact Qo _ _,by rw[HCC.out];exact SlA.nil,hBW⟩
 cases kb:keyB key
 ·have hkb2:¬(1<=key.size/\key.size<=30):=by simpa[keyB] using kb
  have HE:Hid (updE t key D c=1):=by unfold Hid updE;rw[hr,hq,kb];rfl
  have HTT:Hid (updT t key D c=.mk [] []):=by unfold Hid updT;rw[HE.out];rfl
  have HCC:Hid (updC t key D c=[]):=by unfold Hid updC;rw[HE.out];rfl
  clear hr hq kb
  by_cases hz:key.size<1
  ·have t1:decide ((key.size:Int)<1)=true:=by simp;omega
   go_wp2_with fail
   obtain⟨r0,r1,r2,hK,hS⟩:=box3 HG6.out (.slice none 0 0) (.slice none 0 0) (.slice none 0 0)
   have hBW:=((hB2.setCell (p:=⟨w.heap.size+3,0,none⟩) (by simp) (.slice none 0 0)).setCell (p:=⟨w.heap.size+3,1,none⟩) (by simp) (.slice none 0 0)).setCell (p:=⟨w.heap.size+3,2,none⟩) (by simp) (.slice none 0 0)
   refine bodyPost_ret (v:=.tuple #[.agg #[.slice none 0 0,.slice none 0 0,.slice none 0 0],.int .i64 1]) (by simp[results,Tryz.results100,go_sem,r0,r1,r2]) rfl ⟨_,_,_,by rw[HE.out],by rw[HTT.out];exact Qo _ _,by rw[HCC.out];exact SlA.nil,hBW⟩
  ·have t1:decide ((key.size:Int)<1)=false:=by simp;omega
   have t2:decide ((30:Int)<key.size)=true:=by simp;omega
   go_wp2_with fail
   obtain⟨r0,r1,r2,hK,hS⟩:=box3 HG6.out (.slice none 0 0) (.slice none 0 0) (.slice none 0 0)
   have hBW:=((hB2.setCell (p:=⟨w.heap.size+3,0,none⟩) (by simp) (.slice none 0 0)).setCell (p:=⟨w.heap.size+3,1,none⟩) (by simp) (.slice none 0 0)).setCell (p:=⟨w.heap.size+3,2,none⟩) (by simp) (.slice none 0 0)
   refine bodyPost_ret (v:=.tuple #[.agg #[.slice none 0 0,.slice none 0 0,.slice none 0 0],.int .i64 1]) (by simp[results,Tryz.results100,go_sem,r0,r1,r2]) rfl ⟨_,_,_,by rw[HE.out],by rw[HTT.out];exact Qo _ _,by rw[HCC.out];exact SlA.nil,hBW⟩
 have hkb2:1<=key.size/\key.size<=30:=by simpa[keyB] using kb
 have t1:decide ((key.size:Int)<1)=false:=by simp;omega
 have t2:decide ((30:Int)<key.size)=false:=by simp;omega
 go_wp2_with fail
 refine (KR (fun y=>decide (y=key)) _ _ t.ks _ w2 (HKS.out _ hB2) (zXz d0 (by omega))).mono ?_
 rintro e w3 ⟨rfl,hb3⟩
 clear c0 c1 d0 e0 e1 e2 k0 k1 k2 z0 z1 z2 HG6
 have hb3':=hid (hb2'.out.trans (hb3.mono hs2))
 obtain⟨hB3,hs3,g3,g4,g5,g6⟩:=HW.out _ hb3'.out
 have HG6:=hid g6
 have c0:w3.cell? ⟨w.heap.size,0,none⟩=some (.slice A3 t.es.length n3):=Qa (i:=0) g3
 have c1:w3.cell? ⟨w.heap.size,1,none⟩=some (.slice A4 t.ks.length n4):=Qa (i:=1) g3
 have d0:w3.cell? ⟨w.heap.size+1,0,none⟩=some (.string key):=Qa (i:=0) g4
 have e0:w3.cell? ⟨w.heap.size+2,0,none⟩=some (.slice A5 D.es.length n5):=Qa (i:=0) g5
 have e1:w3.cell? ⟨w.heap.size+2,1,none⟩=some (.slice A6 D.ks.length n6):=Qa (i:=1) g5
 have e2:w3.cell? ⟨w.heap.size+2,2,none⟩=some (.slice A7 c.length n7):=Qa (i:=2) g5
 have k0:w3.cell? ⟨w.heap.size+3,0,none⟩=some (.slice none 0 0):=Qa (i:=0) g6
 have k1:w3.cell? ⟨w.heap.size+3,1,none⟩=some (.slice none 0 0):=Qa (i:=1) g6
 have k2:w3.cell? ⟨w.heap.size+3,2,none⟩=some (.slice none 0 0):=Qa (i:=2) g6
 have z0:=Qb (i:=0) g6
 have z1:=Qb (i:=1) g6
 have z2:=Qb (i:=2) g6
 clear g3 g4 g5 g6
 clear hb3
 go_wp2_with fail
 refine (QF D.es.length D.ks.length A5 A6 n5 n6 w3).mono ?_
 rintro e w4 ⟨rfl,hb4⟩
 clear c0 c1 d0 e0 e1 e2 k0 k1 k2 z0 z1 z2 HG6
 have hb4':=hid (hb3'.out.trans (hb4.mono hs3))
 obtain⟨hB4,hs4,g3,g4,g5,g6⟩:=HW.out _ hb4'.out
 have HG6:=hid g6
 have c0:w4.cell? ⟨w.heap.size,0,none⟩=some (.slice A3 t.es.length n3):=Qa (i:=0) g3
 have c1:w4.cell? ⟨w.heap.size,1,none⟩=some (.slice A4 t.ks.length n4):=Qa (i:=1) g3
 have d0:w4.cell? ⟨w.heap.size+1,0,none⟩=some (.string key):=Qa (i:=0) g4
 have e0:w4.cell? ⟨w.heap.size+2,0,none⟩=some (.slice A5 D.es.length n5):=Qa (i:=0) g5
 have e1:w4.cell? ⟨w.heap.size+2,1,none⟩=some (.slice A6 D.ks.length n6):=Qa (i:=1) g5
 have e2:w4.cell? ⟨w.heap.size+2,2,none⟩=some (.slice A7 c.length n7):=Qa (i:=2) g5
 have k0:w4.cell? ⟨w.heap.size+3,0,none⟩=some (.slice none 0 0):=Qa (i:=0) g6
 have k1:w4.cell? ⟨w.heap.size+3,1,none⟩=some (.slice none 0 0):=Qa (i:=1) g6
 have k2:w4.cell? ⟨w.heap.size+3,2,none⟩=some (.slice none 0 0):=Qa (i:=2) g6
 have z0:=Qb (i:=0) g6
 have z1:=Qb (i:=1) g6
 have z2:=Qb (i:=2) g6
 clear g3 g4 g5 g6
 clear hb4
 have hfi:decide ((24:Int)<=(t.ks.length:Int))=decide (24<=t.ks.length):=by rw[Bool.eq_iff_iff];simp;omega
 cases em:empB D.es.length D.ks.length
 ·cases fl:decide (24<=t.ks.length)
  ·have HE0:Hid (updE t key D c=wrapE D key):=by unfold Hid updE;rw[hr,hq,kb,em,fl];simp
   rw[fl]at hfi
   clear em fl
   clear hr hq kb
   go_wp2_with fail
   refine (YJ D key _ _ _ _ (HD.out _ (hB4.alloc (by omega) _)) (SlP.oneB (x:=key) (cs:=[.string key]) ⟨rfl,hkey⟩ rfl _ rfl (by simp)) (by omega)).mono ?_
   rintro e w5 ⟨v5,u5,rfl,hrd5,hb5⟩
   obtain⟨A8,n8,A9,n9,rfl,rfl⟩:=Qj hrd5
   clear c0 c1 d0 e0 e1 e2 k0 k1 k2 z0 z1 z2 HG6
   have hb5':=hid (hb4'.out.trans ((((Below.refl w4.heap.size w4).alloc (Nat.le_refl _) _).trans (hb5.mono (show w4.heap.size<=_ by simp))).mono hs4))
   obtain⟨hB5,hs5,g3,g4,g5,g6⟩:=HW.out _ hb5'.out
   have HG6:=hid g6
   have c0:w5.cell? ⟨w.heap.size,0,none⟩=some (.slice A3 t.es.length n3):=Qa (i:=0) g3
   have c1:w5.cell? ⟨w.heap.size,1,none⟩=some (.slice A4 t.ks.length n4):=Qa (i:=1) g3
   have d0:w5.cell? ⟨w.heap.size+1,0,none⟩=some (.string key):=Qa (i:=0) g4
   have e0:w5.cell? ⟨w.heap.size+2,0,none⟩=some (.slice A5 D.es.length n5):=Qa (i:=0) g5
   have e1:w5.cell? ⟨w.heap.size+2,1,none⟩=some (.slice A6 D.ks.length n6):=Qa (i:=1) g5
   have e2:w5.cell? ⟨w.heap.size+2,2,none⟩=some (.slice A7 c.length n7):=Qa (i:=2) g5
   have k0:w5.cell? ⟨w.heap.size+3,0,none⟩=some (.slice none 0 0):=Qa (i:=0) g6
   have k1:w5.cell? ⟨w.heap.size+3,1,none⟩=some (.slice none 0 0):=Qa (i:=1) g6
   have k2:w5.cell? ⟨w.heap.size+3,2,none⟩=some (.slice none 0 0):=Qa (i:=2) g6
   have z0:=Qb (i:=0) g6
   have z1:=Qb (i:=1) g6
   have z2:=Qb (i:=2) g6
   clear g3 g4 g5 g6
   have hs5':=hb5.size
   simp only[World.size_alloc]at hs5'
   clear hb5
   have hlt3:w.heap.size+3<w5.heap.size:=by omega
   have hne3:w.heap.size+3≠w5.heap.size:=by omega
   have hlt2:w.heap.size+2<w5.heap.size:=by omega
   have hne2:w.heap.size+2≠w5.heap.size:=by omega
   have hw3:wrapE D key=0∨wrapE D key=1∨wrapE D key=10:=by unfold wrapE;split<;>(try split)<;>simp
   have HTX:Hid (updT t key D c=if wrapE D key=0 then wrapT D key else .mk [] []):=by unfold Hid updT;rw[HE0.out]
   have HCX:Hid (updC t key D c=if wrapE D key=0 then c else []):=by unfold Hid updC;rw[HE0.out]
   rw[HE0.out]
   generalize wrapE D key=K at *
   generalize wrapT D key=T at *
   rcases hw3 with rfl|rfl|rfl
   ·have HX:Hid (∀ w',Below (w5.heap.size+1) (w5.alloc (.cells #[.slice A8 T.es.length n8,.slice A9 T.ks.length n9] 25)) w'->Below w5.heap.size w5 w'/\(w'.cell? ⟨w.heap.size+2,2,none⟩=some (.slice A7 c.length n7)/\w'.cell? ⟨w5.heap.size,0,none⟩=some (.slice A8 T.es.length n8)/\w'.cell? ⟨w5.heap.size,1,none⟩=some (.slice A9 T.ks.length n9))):=fun w' hb=>by
     have hB:Below w5.heap.size w5 w':=((Below.refl _ w5).alloc (Nat.le_refl _) _).trans (hb.mono (by omega))
     refine⟨hB,(hB.cell (p:=⟨w.heap.size+2,2,none⟩) (by show w.heap.size+2<_;omega)).trans e2,?_,?_⟩
     ·rw[hb.cell (p:=⟨w5.heap.size,0,none⟩) (by simp),World.cell?_alloc_new];rfl
     ·rw[hb.cell (p:=⟨w5.heap.size,1,none⟩) (by simp),World.cell?_alloc_new];rfl
    clear c0 c1 d0 e0 e1 k0 k1 k2 z0 z1 z2
    go_upto_region 9 with (fail)
    go_region_held3 (fun w'=>w'.cell? ⟨w.heap.size+2,2,none⟩=some (.slice A7 c.length n7)/\w'.cell? ⟨w5.heap.size,0,none⟩=some (.slice A8 T.es.length n8)/\w'.cell? ⟨w5.heap.size,1,none⟩=some (.slice A9 T.ks.length n9))
     (first|go_keep|exact (HX.out _ hbx.out).2|exact⟨Q4 (by simp) (HX.out _ hbx.out).2.1,Q4 (by show w.heap.size+3≠_;omega) (HX.out _ hbx.out).2.2.1,Q4 (by show w.heap.size+3≠_;omega) (HX.out _ hbx.out).2.2.2⟩)
     (first|(go_at_call 37;go_loud ((refine (YV c _ _ (HC.out _ ((hB5.alloc (by omega) _).drew)) (by unfold Few;omega)).mono ?_);rintro e w6 ⟨v6,rfl,ho6,hb6⟩;obtain⟨A10,c10,hv6⟩:=ho6.shape;subst hv6;have HO6:=hid ho6;have hbx:Hid (Below (w5.heap.size+1) (w5.alloc (.cells #[.slice A8 T.es.length n8,.slice A9 T.ks.length n9] 25)) w6):=(((Below.refl (w5.heap.size+1) (w5.alloc (.cells #[.slice A8 T.es.length n8,.slice A9 T.ks.length n9] 25))).drew).trans (hb6.mono (by simp)));have hby:=hid (HX.out _ hbx.out).1;have hs6:w5.heap.size+1<=w6.heap.size:=(by have:=hbx.out.size;simpa using this);have HGx:=hid ((hby.out.block (w.heap.size+3) (by omega)).trans HG6.out);have k0:w6.cell? ⟨w.heap.size+3,0,none⟩=some (.slice none 0 0):=Qa (i:=0) HGx.out;have k1:w6.cell? ⟨w.heap.size+3,1,none⟩=some (.slice none 0 0):=Qa (i:=1) HGx.out;have k2:w6.cell? ⟨w.heap.size+3,2,none⟩=some (.slice none 0 0):=Qa (i:=2) HGx.out;have z0:=Qb (i:=0) HGx.out;have z1:=Qb (i:=1) HGx.out;have z2:=Qb (i:=2) HGx.out;have hlt6:w.heap.size+3<w6.heap.size:=(by omega);have hne6:w.heap.size+3≠w6.heap.size:=(by omega);clear ho6 hb6)))
    all_goals go_wp2_with fail
    obtain⟨r0,r1,r2,hK,hS⟩:=box3 HGx.out (.slice A8 T.es.length n8) (.slice A9 T.ks.length n9) (.slice A10 c.length c10)
    have hBW:Below w.heap.size w (((w6.setCell ⟨w.heap.size+3,0,none⟩ (.slice A8 T.es.length n8)).setCell ⟨w.heap.size+3,1,none⟩ (.slice A9 T.ks.length n9)).setCell ⟨w.heap.size+3,2,none⟩ (.slice A10 c.length c10)):=(((hB5.trans (hby.out.mono (by omega))).setCell (by simp) _).setCell (by simp) _).setCell (by simp) _
    clear k0 k1 k2 z0 z1 z2
    generalize (((w6.setCell ⟨w.heap.size+3,0,none⟩ (.slice A8 T.es.length n8)).setCell ⟨w.heap.size+3,1,none⟩ (.slice A9 T.ks.length n9)).setCell ⟨w.heap.size+3,2,none⟩ (.slice A10 c.length c10))=W at *
    refine bodyPost_ret (v:=.tuple #[.agg #[.slice A8 T.es.length n8,.slice A9 T.ks.length n9,.slice A10 c.length c10],.int .i64 0]) (by simp[results,Tryz.results100,go_sem,r0,r1,r2]) rfl ⟨_,_,_,by rw[HE0.out],?_,?_,hBW⟩
    ·rw[HTX.out,if_pos trivial]
     exact Qp (fun b hb=>(hK b (by have:=hb.1;simp only[World.size_alloc]at this;omega)).trans (hby.out.block b hb.2)) (fun b hb=>⟨by have:=hb.1;simp only[World.size_alloc]at this;omega,by have:=hb.2;omega⟩) _ _ _ hrd5
    ·rw[HCX.out,if_pos trivial]
     refine (HO6.out.sla (by unfold Big;omega)).up (fun b hb=>hK b (by have:=hb.1;simp only[World.size_alloc,World.size_drew]at this;omega)) (fun b hb=>⟨by have:=hb.1;simp only[World.size_alloc,World.size_drew]at this;omega,by have:=hb.2.1;omega⟩) (fun _ _ _ h=>h)
   ·go_wp2_with fail
    obtain⟨r0,r1,r2,hK,hS⟩:=box3 HG6.out (.slice none 0 0) (.slice none 0 0) (.slice none 0 0)
    have hBW:Below w.heap.size w (((w5.setCell ⟨w.heap.size+3,0,none⟩ (.slice none 0 0)).setCell ⟨w.heap.size+3,1,none⟩ (.slice none 0 0)).setCell ⟨w.heap.size+3,2,none⟩ (.slice none 0 0)):=((hB5.setCell (by simp) _).setCell (by simp) _).setCell (by simp) _
    clear c0 c1 d0 e0 e1 e2 k0 k1 k2 z0 z1 z2
    generalize (((w5.setCell ⟨w.heap.size+3,0,none⟩ (.slice none 0 0)).setCell ⟨w.heap.size+3,1,none⟩ (.slice none 0 0)).setCell ⟨w.heap.size+3,2,none⟩ (.slice none 0 0))=W at *
    have q0:(W.alloc (.cells #[.slice A8 T.es.length n8,.slice A9 T.ks.length n9] 25)).cell? ⟨w.heap.size+1+1+1,0,none⟩=some (.slice none 0 0):=by rw[World.cell?_alloc_lt _ _ _ (by show w.heap.size+3<_;omega)];exact r0
    have q1:(W.alloc (.cells #[.slice A8 T.es.length n8,.slice A9 T.ks.length n9] 25)).cell? ⟨w.heap.size+1+1+1,1,none⟩=some (.slice none 0 0):=by rw[World.cell?_alloc_lt _ _ _ (by show w.heap.size+3<_;omega)];exact r1
    have q2:(W.alloc (.cells #[.slice A8 T.es.length n8,.slice A9 T.ks.length n9] 25)).cell? ⟨w.heap.size+1+1+1,2,none⟩=some (.slice none 0 0):=by rw[World.cell?_alloc_lt _ _ _ (by show w.heap.size+3<_;omega)];exact r2
    refine bodyPost_ret (v:=.tuple #[.agg #[.slice none 0 0,.slice none 0 0,.slice none 0 0],.int .i64 1]) (by simp[results,Tryz.results100,go_sem,q0,q1,q2]) rfl ⟨_,_,_,by rw[HE0.out],by rw[HTX.out,if_neg (by decide)];exact Qo _ _,by rw[HCX.out,if_neg (by decide)];exact SlA.nil,hBW.alloc (by omega) _⟩
   ·go_wp2_with fail
    obtain⟨r0,r1,r2,hK,hS⟩:=box3 HG6.out (.slice none 0 0) (.slice none 0 0) (.slice none 0 0)
    have hBW:Below w.heap.size w (((w5.setCell ⟨w.heap.size+3,0,none⟩ (.slice none 0 0)).setCell ⟨w.heap.size+3,1,none⟩ (.slice none 0 0)).setCell ⟨w.heap.size+3,2,none⟩ (.slice none 0 0)):=((hB5.setCell (by simp) _).setCell (by simp) _).setCell (by simp) _
    clear c0 c1 d0 e0 e1 e2 k0 k1 k2 z0 z1 z2
    generalize (((w5.setCell ⟨w.heap.size+3,0,none⟩ (.slice none 0 0)).setCell ⟨w.heap.size+3,1,none⟩ (.slice none 0 0)).setCell ⟨w.heap.size+3,2,none⟩ (.slice none 0 0))=W at *
    have q0:(W.alloc (.cells #[.slice A8 T.es.length n8,.slice A9 T.ks.length n9] 25)).cell? ⟨w.heap.size+1+1+1,0,none⟩=some (.slice none 0 0):=by rw[World.cell?_alloc_lt _ _ _ (by show w.heap.size+3<_;omega)];exact r0
    have q1:(W.alloc (.cells #[.slice A8 T.es.length n8,.slice A9 T.ks.length n9] 25)).cell? ⟨w.heap.size+1+1+1,1,none⟩=some (.slice none 0 0):=by rw[World.cell?_alloc_lt _ _ _ (by show w.heap.size+3<_;omega)];exact r1
    have q2:(W.alloc (.cells #[.slice A8 T.es.length n8,.slice A9 T.ks.length n9] 25)).cell? ⟨w.heap.size+1+1+1,2,none⟩=some (.slice none 0 0):=by rw[World.cell?_alloc_lt _ _ _ (by show w.heap.size+3<_;omega)];exact r2
    refine bodyPost_ret (v:=.tuple #[.agg #[.slice none 0 0,.slice none 0 0,.slice none 0 0],.int .i64 10]) (by simp[results,Tryz.results100,go_sem,q0,q1,q2]) rfl ⟨_,_,_,by rw[HE0.out],by rw[HTX.out,if_neg (by decide)];exact Qo _ _,by rw[HCX.out,if_neg (by decide)];exact SlA.nil,hBW.alloc (by omega) _⟩
  ·rw[fl]at hfi
   cases an:(t.ks.any fun y=>decide (y.1=key))
   ·have HE:Hid (updE t key D c=4):=by unfold Hid updE;rw[hr,hq,kb,em,fl,an];rfl
    have HTT:Hid (updT t key D c=.mk [] []):=by unfold Hid updT;rw[HE.out];rfl
    have HCC:Hid (updC t key D c=[]):=by unfold Hid updC;rw[HE.out];rfl
    clear hr hq kb em fl an
    go_wp2_with fail
    obtain⟨r0,r1,r2,hK,hS⟩:=box3 HG6.out (.slice none 0 0) (.slice none 0 0) (.slice none 0 0)
    have hBW:=((hB4.setCell (p:=⟨w.heap.size+3,0,none⟩) (by simp) (.slice none 0 0)).setCell (p:=⟨w.heap.size+3,1,none⟩) (by simp) (.slice none 0 0)).setCell (p:=⟨w.heap.size+3,2,none⟩) (by simp) (.slice none 0 0)
    refine bodyPost_ret (v:=.tuple #[.agg #[.slice none 0 0,.slice none 0 0,.slice none 0 0],.int .i64 4]) (by simp[results,Tryz.results100,go_sem,r0,r1,r2]) rfl ⟨_,_,_,by rw[HE.out],by rw[HTT.out];exact Qo _ _,by rw[HCC.out];exact SlA.nil,hBW⟩
   ·have HE0:Hid (updE t key D c=wrapE D key):=by unfold Hid updE;rw[hr,hq,kb,em,fl,an];simp
    clear em fl an
    clear hr hq kb
    go_wp2_with fail
    refine (YJ D key _ _ _ _ (HD.out _ (hB4.alloc (by omega) _)) (SlP.oneB (x:=key) (cs:=[.string key]) ⟨rfl,hkey⟩ rfl _ rfl (by simp)) (by omega)).mono ?_
    rintro e w5 ⟨v5,u5,rfl,hrd5,hb5⟩
    obtain⟨A8,n8,A9,n9,rfl,rfl⟩:=Qj hrd5
    clear c0 c1 d0 e0 e1 e2 k0 k1 k2 z0 z1 z2 HG6
    have hb5':=hid (hb4'.out.trans ((((Below.refl w4.heap.size w4).alloc (Nat.le_refl _) _).trans (hb5.mono (show w4.heap.size<=_ by simp))).mono hs4))
    obtain⟨hB5,hs5,g3,g4,g5,g6⟩:=HW.out _ hb5'.out
    have HG6:=hid g6
    have c0:w5.cell? ⟨w.heap.size,0,none⟩=some (.slice A3 t.es.length n3):=Qa (i:=0) g3
    have c1:w5.cell? ⟨w.heap.size,1,none⟩=some (.slice A4 t.ks.length n4):=Qa (i:=1) g3
    have d0:w5.cell? ⟨w.heap.size+1,0,none⟩=some (.string key):=Qa (i:=0) g4
    have e0:w5.cell? ⟨w.heap.size+2,0,none⟩=some (.slice A5 D.es.length n5):=Qa (i:=0) g5
    have e1:w5.cell? ⟨w.heap.size+2,1,none⟩=some (.slice A6 D.ks.length n6):=Qa (i:=1) g5
    have e2:w5.cell? ⟨w.heap.size+2,2,none⟩=some (.slice A7 c.length n7):=Qa (i:=2) g5
    have k0:w5.cell? ⟨w.heap.size+3,0,none⟩=some (.slice none 0 0):=Qa (i:=0) g6
    have k1:w5.cell? ⟨w.heap.size+3,1,none⟩=some (.slice none 0 0):=Qa (i:=1) g6
    have k2:w5.cell? ⟨w.heap.size+3,2,none⟩=some (.slice none 0 0):=Qa (i:=2) g6
    have z0:=Qb (i:=0) g6
    have z1:=Qb (i:=1) g6
    have z2:=Qb (i:=2) g6
    clear g3 g4 g5 g6
    have hs5':=hb5.size
    simp only[World.size_alloc]at hs5'
    clear hb5
    have hlt3:w.heap.size+3<w5.heap.size:=by omega
    have hne3:w.heap.size+3≠w5.heap.size:=by omega
    have hlt2:w.heap.size+2<w5.heap.size:=by omega
    have hne2:w.heap.size+2≠w5.heap.size:=by omega
    have hw3:wrapE D key=0∨wrapE D key=1∨wrapE D key=10:=by unfold wrapE;split<;>(try split)<;>simp
    have HTX:Hid (updT t key D c=if wrapE D key=0 then wrapT D key else .mk [] []):=by unfold Hid updT;rw[HE0.out]
    have HCX:Hid (updC t key D c=if wrapE D key=0 then c else []):=by unfold Hid updC;rw[HE0.out]
    rw[HE0.out]
    generalize wrapE D key=K at *
    generalize wrapT D key=T at *
    rcases hw3 with rfl|rfl|rfl
    ·have HX:Hid (∀ w',Below (w5.heap.size+1) (w5.alloc (.cells #[.slice A8 T.es.length n8,.slice A9 T.ks.length n9] 25)) w'->Below w5.heap.size w5 w'/\(w'.cell? ⟨w.heap.size+2,2,none⟩=some (.slice A7 c.length n7)/\w'.cell? ⟨w5.heap.size,0,none⟩=some (.slice A8 T.es.length n8)/\w'.cell? ⟨w5.heap.size,1,none⟩=some (.slice A9 T.ks.length n9))):=fun w' hb=>by
      have hB:Below w5.heap.size w5 w':=((Below.refl _ w5).alloc (Nat.le_refl _) _).trans (hb.mono (by omega))
      refine⟨hB,(hB.cell (p:=⟨w.heap.size+2,2,none⟩) (by show w.heap.size+2<_;omega)).trans e2,?_,?_⟩
      ·rw[hb.cell (p:=⟨w5.heap.size,0,none⟩) (by simp),World.cell?_alloc_new];rfl
      ·rw[hb.cell (p:=⟨w5.heap.size,1,none⟩) (by simp),World.cell?_alloc_new];rfl
     clear c0 c1 d0 e0 e1 k0 k1 k2 z0 z1 z2
     go_upto_region 9 with (fail)
     go_region_held3 (fun w'=>w'.cell? ⟨w.heap.size+2,2,none⟩=some (.slice A7 c.length n7)/\w'.cell? ⟨w5.heap.size,0,none⟩=some (.slice A8 T.es.length n8)/\w'.cell? ⟨w5.heap.size,1,none⟩=some (.slice A9 T.ks.length n9))
      (first|go_keep|exact (HX.out _ hbx.out).2|exact⟨Q4 (by simp) (HX.out _ hbx.out).2.1,Q4 (by show w.heap.size+3≠_;omega) (HX.out _ hbx.out).2.2.1,Q4 (by show w.heap.size+3≠_;omega) (HX.out _ hbx.out).2.2.2⟩)
      (first|(go_at_call 37;go_loud ((refine (YV c _ _ (HC.out _ ((hB5.alloc (by omega) _).drew)) (by unfold Few;omega)).mono ?_);rintro e w6 ⟨v6,rfl,ho6,hb6⟩;obtain⟨A10,c10,hv6⟩:=ho6.shape;subst hv6;have HO6:=hid ho6;have hbx:Hid (Below (w5.heap.size+1) (w5.alloc (.cells #[.slice A8 T.es.length n8,.slice A9 T.ks.length n9] 25)) w6):=(((Below.refl (w5.heap.size+1) (w5.alloc (.cells #[.slice A8 T.es.length n8,.slice A9 T.ks.length n9] 25))).drew).trans (hb6.mono (by simp)));have hby:=hid (HX.out _ hbx.out).1;have hs6:w5.heap.size+1<=w6.heap.size:=(by have:=hbx.out.size;simpa using this);have HGx:=hid ((hby.out.block (w.heap.size+3) (by omega)).trans HG6.out);have k0:w6.cell? ⟨w.heap.size+3,0,none⟩=some (.slice none 0 0):=Qa (i:=0) HGx.out;have k1:w6.cell? ⟨w.heap.size+3,1,none⟩=some (.slice none 0 0):=Qa (i:=1) HGx.out;have k2:w6.cell? ⟨w.heap.size+3,2,none⟩=some (.slice none 0 0):=Qa (i:=2) HGx.out;have z0:=Qb (i:=0) HGx.out;have z1:=Qb (i:=1) HGx.out;have z2:=Qb (i:=2) HGx.out;have hlt6:w.heap.size+3<w6.heap.size:=(by omega);have hne6:w.heap.size+3≠w6.heap.size:=(by omega);clear ho6 hb6)))
     all_goals go_wp2_with fail
     obtain⟨r0,r1,r2,hK,hS⟩:=box3 HGx.out (.slice A8 T.es.length n8) (.slice A9 T.ks.length n9) (.slice A10 c.length c10)
     have hBW:Below w.heap.size w (((w6.setCell ⟨w.heap.size+3,0,none⟩ (.slice A8 T.es.length n8)).setCell ⟨w.heap.size+3,1,none⟩ (.slice A9 T.ks.length n9)).setCell ⟨w.heap.size+3,2,none⟩ (.slice A10 c.length c10)):=(((hB5.trans (hby.out.mono (by omega))).setCell (by simp) _).setCell (by simp) _).setCell (by simp) _
     clear k0 k1 k2 z0 z1 z2
     generalize (((w6.setCell ⟨w.heap.size+3,0,none⟩ (.slice A8 T.es.length n8)).setCell ⟨w.heap.size+3,1,none⟩ (.slice A9 T.ks.length n9)).setCell ⟨w.heap.size+3,2,none⟩ (.slice A10 c.length c10))=W at *
     refine bodyPost_ret (v:=.tuple #[.agg #[.slice A8 T.es.length n8,.slice A9 T.ks.length n9,.slice A10 c.length c10],.int .i64 0]) (by simp[results,Tryz.results100,go_sem,r0,r1,r2]) rfl ⟨_,_,_,by rw[HE0.out],?_,?_,hBW⟩
     ·rw[HTX.out,if_pos trivial]
      exact Qp (fun b hb=>(hK b (by have:=hb.1;simp only[World.size_alloc]at this;omega)).trans (hby.out.block b hb.2)) (fun b hb=>⟨by have:=hb.1;simp only[World.size_alloc]at this;omega,by have:=hb.2;omega⟩) _ _ _ hrd5
     ·rw[HCX.out,if_pos trivial]
      refine (HO6.out.sla (by unfold Big;omega)).up (fun b hb=>hK b (by have:=hb.1;simp only[World.size_alloc,World.size_drew]at this;omega)) (fun b hb=>⟨by have:=hb.1;simp only[World.size_alloc,World.size_drew]at this;omega,by have:=hb.2.1;omega⟩) (fun _ _ _ h=>h)
    ·go_wp2_with fail
     obtain⟨r0,r1,r2,hK,hS⟩:=box3 HG6.out (.slice none 0 0) (.slice none 0 0) (.slice none 0 0)
     have hBW:Below w.heap.size w (((w5.setCell ⟨w.heap.size+3,0,none⟩ (.slice none 0 0)).setCell ⟨w.heap.size+3,1,none⟩ (.slice none 0 0)).setCell ⟨w.heap.size+3,2,none⟩ (.slice none 0 0)):=((hB5.setCell (by simp) _).setCell (by simp) _).setCell (by simp) _
     clear c0 c1 d0 e0 e1 e2 k0 k1 k2 z0 z1 z2
     generalize (((w5.setCell ⟨w.heap.size+3,0,none⟩ (.slice none 0 0)).setCell ⟨w.heap.size+3,1,none⟩ (.slice none 0 0)).setCell ⟨w.heap.size+3,2,none⟩ (.slice none 0 0))=W at *
     have q0:(W.alloc (.cells #[.slice A8 T.es.length n8,.slice A9 T.ks.length n9] 25)).cell? ⟨w.heap.size+1+1+1,0,none⟩=some (.slice none 0 0):=by rw[World.cell?_alloc_lt _ _ _ (by show w.heap.size+3<_;omega)];exact r0
     have q1:(W.alloc (.cells #[.slice A8 T.es.length n8,.slice A9 T.ks.length n9] 25)).cell? ⟨w.heap.size+1+1+1,1,none⟩=some (.slice none 0 0):=by rw[World.cell?_alloc_lt _ _ _ (by show w.heap.size+3<_;omega)];exact r1
     have q2:(W.alloc (.cells #[.slice A8 T.es.length n8,.slice A9 T.ks.length n9] 25)).cell? ⟨w.heap.size+1+1+1,2,none⟩=some (.slice none 0 0):=by rw[World.cell?_alloc_lt _ _ _ (by show w.heap.size+3<_;omega)];exact r2
     refine bodyPost_ret (v:=.tuple #[.agg #[.slice none 0 0,.slice none 0 0,.slice none 0 0],.int .i64 1]) (by simp[results,Tryz.results100,go_sem,q0,q1,q2]) rfl ⟨_,_,_,by rw[HE0.out],by rw[HTX.out,if_neg (by decide)];exact Qo _ _,by rw[HCX.out,if_neg (by decide)];exact SlA.nil,hBW.alloc (by omega) _⟩
    ·go_wp2_with fail
     obtain⟨r0,r1,r2,hK,hS⟩:=box3 HG6.out (.slice none 0 0) (.slice none 0 0) (.slice none 0 0)
     have hBW:Below w.heap.size w (((w5.setCell ⟨w.heap.size+3,0,none⟩ (.slice none 0 0)).setCell ⟨w.heap.size+3,1,none⟩ (.slice none 0 0)).setCell ⟨w.heap.size+3,2,none⟩ (.slice none 0 0)):=((hB5.setCell (by simp) _).setCell (by simp) _).setCell (by simp) _
     clear c0 c1 d0 e0 e1 e2 k0 k1 k2 z0 z1 z2
     generalize (((w5.setCell ⟨w.heap.size+3,0,none⟩ (.slice none 0 0)).setCell ⟨w.heap.size+3,1,none⟩ (.slice none 0 0)).setCell ⟨w.heap.size+3,2,none⟩ (.slice none 0 0))=W at *
     have q0:(W.alloc (.cells #[.slice A8 T.es.length n8,.slice A9 T.ks.length n9] 25)).cell? ⟨w.heap.size+1+1+1,0,none⟩=some (.slice none 0 0):=by rw[World.cell?_alloc_lt _ _ _ (by show w.heap.size+3<_;omega)];exact r0
     have q1:(W.alloc (.cells #[.slice A8 T.es.length n8,.slice A9 T.ks.length n9] 25)).cell? ⟨w.heap.size+1+1+1,1,none⟩=some (.slice none 0 0):=by rw[World.cell?_alloc_lt _ _ _ (by show w.heap.size+3<_;omega)];exact r1
     have q2:(W.alloc (.cells #[.slice A8 T.es.length n8,.slice A9 T.ks.length n9] 25)).cell? ⟨w.heap.size+1+1+1,2,none⟩=some (.slice none 0 0):=by rw[World.cell?_alloc_lt _ _ _ (by show w.heap.size+3<_;omega)];exact r2
     refine bodyPost_ret (v:=.tuple #[.agg #[.slice none 0 0,.slice none 0 0,.slice none 0 0],.int .i64 10]) (by simp[results,Tryz.results100,go_sem,q0,q1,q2]) rfl ⟨_,_,_,by rw[HE0.out],by rw[HTX.out,if_neg (by decide)];exact Qo _ _,by rw[HCX.out,if_neg (by decide)];exact SlA.nil,hBW.alloc (by omega) _⟩
 ·have HE0:Hid (updE t key D c=wrapE D key):=by unfold Hid updE;rw[hr,hq,kb,em];simp
  clear em
  clear hr hq kb
  go_wp2_with fail
  refine (YJ D key _ _ _ _ (HD.out _ (hB4.alloc (by omega) _)) (SlP.oneB (x:=key) (cs:=[.string key]) ⟨rfl,hkey⟩ rfl _ rfl (by simp)) (by omega)).mono ?_
  rintro e w5 ⟨v5,u5,rfl,hrd5,hb5⟩
  obtain⟨A8,n8,A9,n9,rfl,rfl⟩:=Qj hrd5
  clear c0 c1 d0 e0 e1 e2 k0 k1 k2 z0 z1 z2 HG6
  have hb5':=hid (hb4'.out.trans ((((Below.refl w4.heap.size w4).alloc (Nat.le_refl _) _).trans (hb5.mono (show w4.heap.size<=_ by simp))).mono hs4))
  obtain⟨hB5,hs5,g3,g4,g5,g6⟩:=HW.out _ hb5'.out
  have HG6:=hid g6
  have c0:w5.cell? ⟨w.heap.size,0,none⟩=some (.slice A3 t.es.length n3):=Qa (i:=0) g3
  have c1:w5.cell? ⟨w.heap.size,1,none⟩=some (.slice A4 t.ks.length n4):=Qa (i:=1) g3
  have d0:w5.cell? ⟨w.heap.size+1,0,none⟩=some (.string key):=Qa (i:=0) g4
  have e0:w5.cell? ⟨w.heap.size+2,0,none⟩=some (.slice A5 D.es.length n5):=Qa (i:=0) g5
  have e1:w5.cell? ⟨w.heap.size+2,1,none⟩=some (.slice A6 D.ks.length n6):=Qa (i:=1) g5
  have e2:w5.cell? ⟨w.heap.size+2,2,none⟩=some (.slice A7 c.length n7):=Qa (i:=2) g5
  have k0:w5.cell? ⟨w.heap.size+3,0,none⟩=some (.slice none 0 0):=Qa (i:=0) g6
  have k1:w5.cell? ⟨w.heap.size+3,1,none⟩=some (.slice none 0 0):=Qa (i:=1) g6
  have k2:w5.cell? ⟨w.heap.size+3,2,none⟩=some (.slice none 0 0):=Qa (i:=2) g6
  have z0:=Qb (i:=0) g6
  have z1:=Qb (i:=1) g6
  have z2:=Qb (i:=2) g6
  clear g3 g4 g5 g6
  have hs5':=hb5.size
  simp only[World.size_alloc]at hs5'
  clear hb5
  have hlt3:w.heap.size+3<w5.heap.size:=by omega
  have hne3:w.heap.size+3≠w5.heap.size:=by omega
  have hlt2:w.heap.size+2<w5.heap.size:=by omega
  have hne2:w.heap.size+2≠w5.heap.size:=by omega
  have hw3:wrapE D key=0∨wrapE D key=1∨wrapE D key=10:=by unfold wrapE;split<;>(try split)<;>simp
  have HTX:Hid (updT t key D c=if wrapE D key=0 then wrapT D key else .mk [] []):=by unfold Hid updT;rw[HE0.out]
  have HCX:Hid (updC t key D c=if wrapE D key=0 then c else []):=by unfold Hid updC;rw[HE0.out]
  rw[HE0.out]
  generalize wrapE D key=K at *
  generalize wrapT D key=T at *
  rcases hw3 with rfl|rfl|rfl
  ·have HX:Hid (∀ w',Below (w5.heap.size+1) (w5.alloc (.cells #[.slice A8 T.es.length n8,.slice A9 T.ks.length n9] 25)) w'->Below w5.heap.size w5 w'/\(w'.cell? ⟨w.heap.size+2,2,none⟩=some (.slice A7 c.length n7)/\w'.cell? ⟨w5.heap.size,0,none⟩=some (.slice A8 T.es.length n8)/\w'.cell? ⟨w5.heap.size,1,none⟩=some (.slice A9 T.ks.length n9))):=fun w' hb=>by
    have hB:Below w5.heap.size w5 w':=((Below.refl _ w5).alloc (Nat.le_refl _) _).trans (hb.mono (by omega))
    refine⟨hB,(hB.cell (p:=⟨w.heap.size+2,2,none⟩) (by show w.heap.size+2<_;omega)).trans e2,?_,?_⟩
    ·rw[hb.cell (p:=⟨w5.heap.size,0,none⟩) (by simp),World.cell?_alloc_new];rfl
    ·rw[hb.cell (p:=⟨w5.heap.size,1,none⟩) (by simp),World.cell?_alloc_new];rfl
   clear c0 c1 d0 e0 e1 k0 k1 k2 z0 z1 z2
   go_upto_region 9 with (fail)
   go_region_held3 (fun w'=>w'.cell? ⟨w.heap.size+2,2,none⟩=some (.slice A7 c.length n7)/\w'.cell? ⟨w5.heap.size,0,none⟩=some (.slice A8 T.es.length n8)/\w'.cell? ⟨w5.heap.size,1,none⟩=some (.slice A9 T.ks.length n9))
    (first|go_keep|exact (HX.out _ hbx.out).2|exact⟨Q4 (by simp) (HX.out _ hbx.out).2.1,Q4 (by show w.heap.size+3≠_;omega) (HX.out _ hbx.out).2.2.1,Q4 (by show w.heap.size+3≠_;omega) (HX.out _ hbx.out).2.2.2⟩)
    (first|(go_at_call 37;go_loud ((refine (YV c _ _ (HC.out _ ((hB5.alloc (by omega) _).drew)) (by unfold Few;omega)).mono ?_);rintro e w6 ⟨v6,rfl,ho6,hb6⟩;obtain⟨A10,c10,hv6⟩:=ho6.shape;subst hv6;have HO6:=hid ho6;have hbx:Hid (Below (w5.heap.size+1) (w5.alloc (.cells #[.slice A8 T.es.length n8,.slice A9 T.ks.length n9] 25)) w6):=(((Below.refl (w5.heap.size+1) (w5.alloc (.cells #[.slice A8 T.es.length n8,.slice A9 T.ks.length n9] 25))).drew).trans (hb6.mono (by simp)));have hby:=hid (HX.out _ hbx.out).1;have hs6:w5.heap.size+1<=w6.heap.size:=(by have:=hbx.out.size;simpa using this);have HGx:=hid ((hby.out.block (w.heap.size+3) (by omega)).trans HG6.out);have k0:w6.cell? ⟨w.heap.size+3,0,none⟩=some (.slice none 0 0):=Qa (i:=0) HGx.out;have k1:w6.cell? ⟨w.heap.size+3,1,none⟩=some (.slice none 0 0):=Qa (i:=1) HGx.out;have k2:w6.cell? ⟨w.heap.size+3,2,none⟩=some (.slice none 0 0):=Qa (i:=2) HGx.out;have z0:=Qb (i:=0) HGx.out;have z1:=Qb (i:=1) HGx.out;have z2:=Qb (i:=2) HGx.out;have hlt6:w.heap.size+3<w6.heap.size:=(by omega);have hne6:w.heap.size+3≠w6.heap.size:=(by omega);clear ho6 hb6)))
   all_goals go_wp2_with fail
   obtain⟨r0,r1,r2,hK,hS⟩:=box3 HGx.out (.slice A8 T.es.length n8) (.slice A9 T.ks.length n9) (.slice A10 c.length c10)
   have hBW:Below w.heap.size w (((w6.setCell ⟨w.heap.size+3,0,none⟩ (.slice A8 T.es.length n8)).setCell ⟨w.heap.size+3,1,none⟩ (.slice A9 T.ks.length n9)).setCell ⟨w.heap.size+3,2,none⟩ (.slice A10 c.length c10)):=(((hB5.trans (hby.out.mono (by omega))).setCell (by simp) _).setCell (by simp) _).setCell (by simp) _
   clear k0 k1 k2 z0 z1 z2
   generalize (((w6.setCell ⟨w.heap.size+3,0,none⟩ (.slice A8 T.es.length n8)).setCell ⟨w.heap.size+3,1,none⟩ (.slice A9 T.ks.length n9)).setCell ⟨w.heap.size+3,2,none⟩ (.slice A10 c.length c10))=W at *
   refine bodyPost_ret (v:=.tuple #[.agg #[.slice A8 T.es.length n8,.slice A9 T.ks.length n9,.slice A10 c.length c10],.int .i64 0]) (by simp[results,Tryz.results100,go_sem,r0,r1,r2]) rfl ⟨_,_,_,by rw[HE0.out],?_,?_,hBW⟩
   ·rw[HTX.out,if_pos trivial]
    exact Qp (fun b hb=>(hK b (by have:=hb.1;simp only[World.size_alloc]at this;omega)).trans (hby.out.block b hb.2)) (fun b hb=>⟨by have:=hb.1;simp only[World.size_alloc]at this;omega,by have:=hb.2;omega⟩) _ _ _ hrd5
   ·rw[HCX.out,if_pos trivial]
    refine (HO6.out.sla (by unfold Big;omega)).up (fun b hb=>hK b (by have:=hb.1;simp only[World.size_alloc,World.size_drew]at this;omega)) (fun b hb=>⟨by have:=hb.1;simp only[World.size_alloc,World.size_drew]at this;omega,by have:=hb.2.1;omega⟩) (fun _ _ _ h=>h)
  ·go_wp2_with fail
   obtain⟨r0,r1,r2,hK,hS⟩:=box3 HG6.out (.slice none 0 0) (.slice none 0 0) (.slice none 0 0)
   have hBW:Below w.heap.size w (((w5.setCell ⟨w.heap.size+3,0,none⟩ (.slice none 0 0)).setCell ⟨w.heap.size+3,1,none⟩ (.slice none 0 0)).setCell ⟨w.heap.size+3,2,none⟩ (.slice none 0 0)):=((hB5.setCell (by simp) _).setCell (by simp) _).setCell (by simp) _
   clear c0 c1 d0 e0 e1 e2 k0 k1 k2 z0 z1 z2
   generalize (((w5.setCell ⟨w.heap.size+3,0,none⟩ (.slice none 0 0)).setCell ⟨w.heap.size+3,1,none⟩ (.slice none 0 0)).setCell ⟨w.heap.size+3,2,none⟩ (.slice none 0 0))=W at *
   have q0:(W.alloc (.cells #[.slice A8 T.es.length n8,.slice A9 T.ks.length n9] 25)).cell? ⟨w.heap.size+1+1+1,0,none⟩=some (.slice none 0 0):=by rw[World.cell?_alloc_lt _ _ _ (by show w.heap.size+3<_;omega)];exact r0
   have q1:(W.alloc (.cells #[.slice A8 T.es.length n8,.slice A9 T.ks.length n9] 25)).cell? ⟨w.heap.size+1+1+1,1,none⟩=some (.slice none 0 0):=by rw[World.cell?_alloc_lt _ _ _ (by show w.heap.size+3<_;omega)];exact r1
   have q2:(W.alloc (.cells #[.slice A8 T.es.length n8,.slice A9 T.ks.length n9] 25)).cell? ⟨w.heap.size+1+1+1,2,none⟩=some (.slice none 0 0):=by rw[World.cell?_alloc_lt _ _ _ (by show w.heap.size+3<_;omega)];exact r2
   refine bodyPost_ret (v:=.tuple #[.agg #[.slice none 0 0,.slice none 0 0,.slice none 0 0],.int .i64 1]) (by simp[results,Tryz.results100,go_sem,q0,q1,q2]) rfl ⟨_,_,_,by rw[HE0.out],by rw[HTX.out,if_neg (by decide)];exact Qo _ _,by rw[HCX.out,if_neg (by decide)];exact SlA.nil,hBW.alloc (by omega) _⟩
  ·go_wp2_with fail
   obtain⟨r0,r1,r2,hK,hS⟩:=box3 HG6.out (.slice none 0 0) (.slice none 0 0) (.slice none 0 0)
   have hBW:Below w.heap.size w (((w5.setCell ⟨w.heap.size+3,0,none⟩ (.slice none 0 0)).setCell ⟨w.heap.size+3,1,none⟩ (.slice none 0 0)).setCell ⟨w.heap.size+3,2,none⟩ (.slice none 0 0)):=((hB5.setCell (by simp) _).setCell (by simp) _).setCell (by simp) _
   clear c0 c1 d0 e0 e1 e2 k0 k1 k2 z0 z1 z2
   generalize (((w5.setCell ⟨w.heap.size+3,0,none⟩ (.slice none 0 0)).setCell ⟨w.heap.size+3,1,none⟩ (.slice none 0 0)).setCell ⟨w.heap.size+3,2,none⟩ (.slice none 0 0))=W at *
   have q0:(W.alloc (.cells #[.slice A8 T.es.length n8,.slice A9 T.ks.length n9] 25)).cell? ⟨w.heap.size+1+1+1,0,none⟩=some (.slice none 0 0):=by rw[World.cell?_alloc_lt _ _ _ (by show w.heap.size+3<_;omega)];exact r0
   have q1:(W.alloc (.cells #[.slice A8 T.es.length n8,.slice A9 T.ks.length n9] 25)).cell? ⟨w.heap.size+1+1+1,1,none⟩=some (.slice none 0 0):=by rw[World.cell?_alloc_lt _ _ _ (by show w.heap.size+3<_;omega)];exact r1
   have q2:(W.alloc (.cells #[.slice A8 T.es.length n8,.slice A9 T.ks.length n9] 25)).cell? ⟨w.heap.size+1+1+1,2,none⟩=some (.slice none 0 0):=by rw[World.cell?_alloc_lt _ _ _ (by show w.heap.size+3<_;omega)];exact r2
   refine bodyPost_ret (v:=.tuple #[.agg #[.slice none 0 0,.slice none 0 0,.slice none 0 0],.int .i64 10]) (by simp[results,Tryz.results100,go_sem,q0,q1,q2]) rfl ⟨_,_,_,by rw[HE0.out],by rw[HTX.out,if_neg (by decide)];exact Qo _ _,by rw[HCX.out,if_neg (by decide)];exact SlA.nil,hBW.alloc (by omega) _⟩
def enT (t:Tr)(d:Dt):Tr:=if chkT t d then .mk [⟨d.dc,d.n,ByteArray.empty,0⟩] [] else .mk [] []
theorem EnE.mk' {d:Dt}(hd:d.Ok):EnE (⟨d.dc,d.n,ByteArray.empty,0⟩:En) [.int .i64 d.dc,.int .i64 d.n,.string ByteArray.empty,.int .i64 0]:=⟨rfl,En.Ok.mk' hd ⟨by decide,by decide⟩⟩
theorem XP {w3:World}{b:Nat}{x0 x1 x2:Value}{a:Addr}{v:Value}{o:Obj}(hne:b≠a.block)(hlt:a.block<w3.heap.size)(h:w3.cell? a=some v) :
  ((((w3.setCell ⟨b,0,none⟩ x0).setCell ⟨b,1,none⟩ x1).setCell ⟨b,2,none⟩ x2).alloc o).cell? a=some v:=by
 rw[World.cell?_alloc_lt _ _ _ (by simpa using hlt),World.cell?_setCell_far _ _ _ _ hne,World.cell?_setCell_far _ _ _ _ hne,World.cell?_setCell_far _ _ _ _ hne];exact h
theorem qXb (t:Tr)(d:Dt)(ve vk:Value)(w:World)(h:t.rd w w.heap.size ve vk)(hN:t.sz<=4000)(hd:d.Ok) :
  Calls Tryz.prog 138 #[.agg #[ve,vk],.agg #[.int .i64 d.dc,.int .i64 d.n]] w (RetCE w (enT t d) (disC t d) (chkI t d)):=by
 have HC:Hid (∀ w',Below w.heap.size w w'->t.rd w' w'.heap.size ve vk):=fun w' hb=>Qi hb hb.size _ _ _ h
 obtain⟨A3,n3,A4,n4,rfl,rfl⟩:=Qk h
 have hb0:=(((Below.refl w.heap.size w).alloc (Nat.le_refl _) (.cells #[.slice A3 t.es.length n3,.slice A4 t.ks.length n4] 25)).alloc (by simp) (.cells #[.int .i64 d.dc,.int .i64 d.n] 78)).alloc (by simp;omega) (.cells #[.slice none 0 0,.slice none 0 0,.slice none 0 0] 29)
 clear h
 go_enter Tryz.func138,Tryz.ntmps138
 go_wp2_with fail
 refine (Zs t d _ _ _ (HC.out _ hb0) (by omega)).mono ?_
 rintro e w1 ⟨rfl,hb1⟩
 have hs1:=hb1.size
 simp only[World.size_alloc]at hs1
 have hB1:Below w.heap.size w w1:=hb0.trans (hb1.mono (by simp;omega))
 have c0:w1.cell? ⟨w.heap.size,0,none⟩=some (.slice A3 t.es.length n3):=by
  rw[hb1.cell (p:=⟨w.heap.size,0,none⟩) (by simp;omega)]
  rw[World.cell?_alloc_lt _ _ _ (by simp;omega),World.cell?_alloc_lt _ _ _ (by simp)];simp
 have c1:w1.cell? ⟨w.heap.size,1,none⟩=some (.slice A4 t.ks.length n4):=by
  rw[hb1.cell (p:=⟨w.heap.size,1,none⟩) (by simp;omega)]
  rw[World.cell?_alloc_lt _ _ _ (by simp;omega),World.cell?_alloc_lt _ _ _ (by simp)];simp
 have d0:w1.cell? ⟨w.heap.size+1,0,none⟩=some (.int .i64 d.dc):=by rw[hb1.cell (p:=⟨w.heap.size+1,0,none⟩) (by simp),World.cell?_alloc_lt _ _ _ (by simp)];simp
 have d1:w1.cell? ⟨w.heap.size+1,1,none⟩=some (.int .i64 d.n):=by rw[hb1.cell (p:=⟨w.heap.size+1,1,none⟩) (by simp),World.cell?_alloc_lt _ _ _ (by simp)];simp
 have hg:w1.heap[w.heap.size+2]?=some (.cells #[.slice none 0 0,.slice none 0 0,.slice none 0 0] 29 (0,0)):=(hb1.block (w.heap.size+2) (by simp)).trans (Qd (by simp))
 have HG:=hid hg
 have k0:w1.cell? ⟨w.heap.size+2,0,none⟩=some (.slice none 0 0):=Qa (i:=0) hg
 have k1:w1.cell? ⟨w.heap.size+2,1,none⟩=some (.slice none 0 0):=Qa (i:=1) hg
 have k2:w1.cell? ⟨w.heap.size+2,2,none⟩=some (.slice none 0 0):=Qa (i:=2) hg
 have z0:=Qb (i:=0) hg
 have z1:=Qb (i:=1) hg
 have z2:=Qb (i:=2) hg
 clear hg hb1
 cases hc:chkT t d
 ·have HE:Hid (chkI t d=1):=by unfold Hid chkI;rw[hc];rfl
  have HD:Hid (disC t d=[]):=by unfold Hid disC;rw[hc];rfl
  have HT:Hid (enT t d=.mk [] []):=by unfold Hid enT;rw[hc];rfl
  rw[HE.out]
  clear hc
  go_wp2_with fail
  obtain⟨r0,r1,r2,hK,hS⟩:=box3 HG.out (.slice none 0 0) (.slice none 0 0) (.slice none 0 0)
  have hBW:=((hB1.setCell (p:=⟨w.heap.size+2,0,none⟩) (by simp) (.slice none 0 0)).setCell (p:=⟨w.heap.size+2,1,none⟩) (by simp) (.slice none 0 0)).setCell (p:=⟨w.heap.size+2,2,none⟩) (by simp) (.slice none 0 0)
  refine bodyPost_ret (v:=.tuple #[.agg #[.slice none 0 0,.slice none 0 0,.slice none 0 0],.int .i64 1]) (by simp[results,Tryz.results138,go_sem,r0,r1,r2]) rfl ⟨_,_,_,by rw[HE.out],?_,?_,hBW⟩
  ·rw[HT.out];exact Qo _ _
  ·rw[HD.out];exact SlA.nil
 ·have HE:Hid (chkI t d=0):=by unfold Hid chkI;rw[hc];rfl
  have HD:Hid (disC t d=seenC t d):=by unfold Hid disC;rw[hc];rfl
  have HT:Hid (enT t d=.mk [⟨d.dc,d.n,ByteArray.empty,0⟩] []):=by unfold Hid enT;rw[hc];rfl
  have HDR:=hid (Zt hc)
  have HTR:=hid (Ym hc)
  have hsc:=Yo t d
  have HK:Hid (∀ w',Below w1.heap.size w1 w'->w'.cell? ⟨w.heap.size+1,0,none⟩=some (.int .i64 d.dc)/\w'.cell? ⟨w.heap.size+1,1,none⟩=some (.int .i64 d.n)/\w'.cell? ⟨w.heap.size,0,none⟩=some (.slice A3 t.es.length n3)/\w'.cell? ⟨w.heap.size,1,none⟩=some (.slice A4 t.ks.length n4)):=fun w' hb=>
   ⟨(hb.cell (p:=⟨w.heap.size+1,0,none⟩) (by show w.heap.size+1<_;omega)).trans d0,(hb.cell (p:=⟨w.heap.size+1,1,none⟩) (by show w.heap.size+1<_;omega)).trans d1,(hb.cell (p:=⟨w.heap.size,0,none⟩) (by show w.heap.size<_;omega)).trans c0,(hb.cell (p:=⟨w.heap.size,1,none⟩) (by show w.heap.size<_;omega)).trans c1⟩
  rw[HE.out]
  have hne5:w.heap.size+1+1≠w.heap.size:=by omega
  have hne6:w.heap.size≠w.heap.size+1+1:=by omega
  clear hc k0 k1 k2 z0 z1 z2
  go_upto_region 4 with (fail)
  go_region_held3 (fun w'=>w'.cell? ⟨w.heap.size+1,0,none⟩=some (.int .i64 d.dc)/\w'.cell? ⟨w.heap.size+1,1,none⟩=some (.int .i64 d.n)/\w'.cell? ⟨w.heap.size,0,none⟩=some (.slice A3 t.es.length n3)/\w'.cell? ⟨w.heap.size,1,none⟩=some (.slice A4 t.ks.length n4))
   (first|go_keep|exact HK.out _ hbx.out|exact⟨XP (by simp) (by show w.heap.size+1<_;omega) (HK.out _ hbx.out).1,XP (by simp) (by show w.heap.size+1<_;omega) (HK.out _ hbx.out).2.1,XP (by show w.heap.size+1+1≠w.heap.size;omega) (by show w.heap.size<_;omega) (HK.out _ hbx.out).2.2.1,XP (by show w.heap.size+1+1≠w.heap.size;omega) (by show w.heap.size<_;omega) (HK.out _ hbx.out).2.2.2⟩)
   (first|(go_at_call 170;go_loud ((refine (qYg t d _ _ _ (HC.out _ (by first|exact hB1.drew|exact (hB1.alloc (by omega) _).drew|exact hB1.drew.alloc (by show w.heap.size<=w1.heap.size;omega) _)) hN HTR.out HDR.out hd).mono ?_);rintro e w3 ⟨v3,rfl,ho3,hb3⟩;obtain⟨A5,c5,hv3⟩:=ho3.shape;subst hv3;have HO3:=hid ho3;have HB3:=hid hb3;have hbx:Hid (Below w1.heap.size w1 w3):=(by first|exact ((Below.refl _ w1).drew).trans hb3|exact (((Below.refl _ w1).alloc (Nat.le_refl _) _).drew).trans (hb3.mono (Nat.le_of_lt (by simp)))|exact (((Below.refl _ w1).drew).alloc (Nat.le_refl _) _).trans (hb3.mono (Nat.le_of_lt (by simp))));have hs3:=hbx.out.size;have HG3:=hid ((hbx.out.block (w.heap.size+2) (by omega)).trans HG.out);have k0:w3.cell? ⟨w.heap.size+2,0,none⟩=some (.slice none 0 0):=Qa (i:=0) HG3.out;have k1:w3.cell? ⟨w.heap.size+2,1,none⟩=some (.slice none 0 0):=Qa (i:=1) HG3.out;have k2:w3.cell? ⟨w.heap.size+2,2,none⟩=some (.slice none 0 0):=Qa (i:=2) HG3.out;have z0:=Qb (i:=0) HG3.out;have z1:=Qb (i:=1) HG3.out;have z2:=Qb (i:=2) HG3.out;have hlt3:w.heap.size+2<w3.heap.size:=(by omega);have hne3:w.heap.size+2≠w3.heap.size:=(by omega);clear ho3 hb3)))
  all_goals go_wp2_with fail
  ·have hE3:w3.heap[w1.heap.size]?=some (.cells #[.int .i64 d.dc,.int .i64 d.n,.string ⟨#[]⟩,.int .i64 0] 80 (0,0)):=(HB3.out.block w1.heap.size (by simp)).trans (Qd rfl)
   obtain⟨r0,r1,r2,hK,hS⟩:=box3 HG3.out (.slice (some ⟨w1.heap.size,0,none⟩) 1 1) (.slice none 0 0) (.slice A5 (seenC t d).length c5)
   have hBW:Below w.heap.size w (((w3.setCell ⟨w.heap.size+2,0,none⟩ (.slice (some ⟨w1.heap.size,0,none⟩) 1 1)).setCell ⟨w.heap.size+2,1,none⟩ (.slice none 0 0)).setCell ⟨w.heap.size+2,2,none⟩ (.slice A5 (seenC t d).length c5)):=(((hB1.trans (hbx.out.mono (by omega))).setCell (by simp) _).setCell (by simp) _).setCell (by simp) _
   clear k0 k1 k2 z0 z1 z2
   generalize (((w3.setCell ⟨w.heap.size+2,0,none⟩ (.slice (some ⟨w1.heap.size,0,none⟩) 1 1)).setCell ⟨w.heap.size+2,1,none⟩ (.slice none 0 0)).setCell ⟨w.heap.size+2,2,none⟩ (.slice A5 (seenC t d).length c5))=W at *
   refine bodyPost_ret (v:=.tuple #[.agg #[.slice (some ⟨w1.heap.size,0,none⟩) 1 1,.slice none 0 0,.slice A5 (seenC t d).length c5],.int .i64 0]) (by simp[results,Tryz.results138,go_sem,r0,r1,r2]) rfl ⟨_,_,_,by rw[HE.out],?_,?_,hBW⟩
   ·rw[HT.out,ZC]
    refine⟨?_,SlA.nil⟩
    exact SlA.one (x:=(⟨d.dc,d.n,ByteArray.empty,0⟩:En)) (cs:=[.int .i64 d.dc,.int .i64 d.n,.string ByteArray.empty,.int .i64 0]) (e:=80) (z:=(0,0)) ⟨rfl,En.Ok.mk' hd ⟨by decide,by decide⟩⟩ rfl ((hK _ (by omega)).trans hE3) ⟨by omega,by have:=HB3.out.size;simp at this;omega⟩
   ·rw[HD.out]
    refine (HO3.out.sla (by unfold Big;omega)).up (fun b hb=>hK b (by have:=hb.1;simp only[World.size_alloc,World.size_drew]at this;omega)) (fun b hb=>⟨by have:=hb.1;simp only[World.size_alloc,World.size_drew]at this;omega,by have:=hb.2.1;omega⟩) (fun _ _ _ h=>h)
  ·obtain⟨r0,r1,r2,hK,hS⟩:=box3 HG3.out (.slice (some ⟨w3.heap.size,0,none⟩) 1 1) (.slice none 0 0) (.slice A5 (seenC t d).length c5)
   have hBW:Below w.heap.size w (((w3.setCell ⟨w.heap.size+2,0,none⟩ (.slice (some ⟨w3.heap.size,0,none⟩) 1 1)).setCell ⟨w.heap.size+2,1,none⟩ (.slice none 0 0)).setCell ⟨w.heap.size+2,2,none⟩ (.slice A5 (seenC t d).length c5)):=(((hB1.trans (hbx.out.mono (by omega))).setCell (by simp) _).setCell (by simp) _).setCell (by simp) _
   clear k0 k1 k2 z0 z1 z2
   generalize (((w3.setCell ⟨w.heap.size+2,0,none⟩ (.slice (some ⟨w3.heap.size,0,none⟩) 1 1)).setCell ⟨w.heap.size+2,1,none⟩ (.slice none 0 0)).setCell ⟨w.heap.size+2,2,none⟩ (.slice A5 (seenC t d).length c5))=W at *
   have q0:(W.alloc (.cells #[.int .i64 d.dc,.int .i64 d.n,.string ⟨#[]⟩,.int .i64 0] 80)).cell? ⟨w.heap.size+1+1,0,none⟩=some (.slice (some ⟨w3.heap.size,0,none⟩) 1 1):=by rw[World.cell?_alloc_lt _ _ _ (by show w.heap.size+2<_;omega)];exact r0
   have q1:(W.alloc (.cells #[.int .i64 d.dc,.int .i64 d.n,.string ⟨#[]⟩,.int .i64 0] 80)).cell? ⟨w.heap.size+1+1,1,none⟩=some (.slice none 0 0):=by rw[World.cell?_alloc_lt _ _ _ (by show w.heap.size+2<_;omega)];exact r1
   have q2:(W.alloc (.cells #[.int .i64 d.dc,.int .i64 d.n,.string ⟨#[]⟩,.int .i64 0] 80)).cell? ⟨w.heap.size+1+1,2,none⟩=some (.slice A5 (seenC t d).length c5):=by rw[World.cell?_alloc_lt _ _ _ (by show w.heap.size+2<_;omega)];exact r2
   refine bodyPost_ret (v:=.tuple #[.agg #[.slice (some ⟨w3.heap.size,0,none⟩) 1 1,.slice none 0 0,.slice A5 (seenC t d).length c5],.int .i64 0]) (by simp[results,Tryz.results138,go_sem,q0,q1,q2]) rfl ⟨_,_,_,by rw[HE.out],?_,?_,hBW.alloc (by omega) _⟩
   ·rw[HT.out,ZC]
    refine⟨?_,SlA.nil⟩
    exact SlA.one (x:=(⟨d.dc,d.n,ByteArray.empty,0⟩:En)) (cs:=[.int .i64 d.dc,.int .i64 d.n,.string ByteArray.empty,.int .i64 0]) (e:=80) (z:=(0,0)) ⟨rfl,En.Ok.mk' hd ⟨by decide,by decide⟩⟩ rfl (Qd hS.symm) ⟨by omega,by rw[World.size_alloc];omega⟩
   ·rw[HD.out]
    refine (HO3.out.sla (by unfold Big;omega)).up (fun b hb=>(Qg (by have:=hb.2.1;omega)).trans (hK b (by have:=hb.1;simp only[World.size_drew]at this;omega))) (fun b hb=>⟨by have:=hb.1;simp only[World.size_drew]at this;omega,by rw[World.size_alloc];have:=hb.2.1;omega⟩) (fun _ _ _ h=>h)
end Go.Proofs.YtbcoelggdikipaaGreat
