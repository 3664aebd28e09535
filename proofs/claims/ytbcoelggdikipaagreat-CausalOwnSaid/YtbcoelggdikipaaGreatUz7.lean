/- What the laws need. No condition but those that each lemma states. -/
import Derived.Test.YtbcoelggdikipaaGreatUz6
import Derived.Test.YtbcoelggdikipaaGreatUz5
import Derived.Test.YtbcoelggdikipaaGreatUz4
import Derived.Test.YtbcoelggdikipaaGreatUz3
import Derived.Test.YtbcoelggdikipaaGreatUz2
set_option maxRecDepth 100000
set_option maxHeartbeats 8000000
set_option linter.unusedSimpArgs false
namespace Go.Proofs.YtbcoelggdikipaaGreat
open Go.RowKit
theorem ZW {t:Tr}{c:List Sp}(h:caR t c=true):t.right 5=true:=by unfold caR at h;simp at h;exact h.1
theorem ZX {t:Tr}{c:List Sp}(h:caR t c=true):Qm c=true:=by rw[qQ4]at h;unfold r9R at h;simp at h;exact h.2.1
theorem XC {t:Tr}{c:List Sp}(h:caR t c=true):t.Ord:=XP t 5 (ZW h)
theorem YN {t:Tr}{c:List Sp}(h:caR t c=true):t.dep<=6:=by have:=Vs t 5 (ZW h);omega
def jnE (a b:Tr)(ca cb:List Sp):Int:=if caR a ca&&caR b cb then 0 else 1
def jnT (a b:Tr)(ca cb:List Sp):Tr:=if caR a ca&&caR b cb then joinT 6 ca cb a b else .mk [] []
def jnC (a b:Tr)(ca cb:List Sp):List Sp:=if caR a ca&&caR b cb then ctxBy ca cb 0 else []
theorem VB (ca cb:List Sp)(a b:Tr)(va ka vb kb vca vcb:Value)(w:World)(ha:a.rd w w.heap.size va ka)(hb:b.rd w w.heap.size vb kb)(hca:SlP w w.heap.size 3 SpE vca ca)(hcb:SlP w w.heap.size 3 SpE vcb cb)(hza:a.sz<=4000)(hzb:b.sz<=4000)(hN1:ca.length<=20000)(hN2:cb.length<=20000) :
  Calls Tryz.prog 33 #[.agg #[va,ka,vca],.agg #[vb,kb,vcb]] w (RetCE w (jnT a b ca cb) (jnC a b ca cb) (jnE a b ca cb)):=by
 have HA:=hid ha
 have HB:=hid hb
 have HCA:Hid (∀ w',Below w.heap.size w w'->SlP w' w'.heap.size 3 SpE vca ca):=fun w' hb=>hca.imp hb hb.size fun _ _ _ h=>h
 have HCB:Hid (∀ w',Below w.heap.size w w'->SlP w' w'.heap.size 3 SpE vcb cb):=fun w' hb=>hcb.imp hb hb.size fun _ _ _ h=>h
 obtain⟨A1,n1,A2,n2,rfl,rfl⟩:=Qk ha
 obtain⟨A3,n3,A4,n4,rfl,rfl⟩:=Qk hb
 obtain⟨A5,n5,rfl,_⟩:=hca
 obtain⟨A6,n6,rfl,_⟩:=hcb
 have HX:Hid (∀ W,Below (w.heap.size+3) (((w.alloc (.cells #[.slice A1 a.es.length n1,.slice A2 a.ks.length n2,.slice A5 ca.length n5] 29)).alloc (.cells #[.slice A3 b.es.length n3,.slice A4 b.ks.length n4,.slice A6 cb.length n6] 29)).alloc (.cells #[.slice none 0 0,.slice none 0 0,.slice none 0 0] 29)) W->Below w.heap.size w W/\W.heap[w.heap.size+2]?=some (.cells #[.slice none 0 0,.slice none 0 0,.slice none 0 0] 29 (0,0))/\w.heap.size+3<=W.heap.size/\(W.cell? ⟨w.heap.size,0,none⟩=some (.slice A1 a.es.length n1)/\W.cell? ⟨w.heap.size,1,none⟩=some (.slice A2 a.ks.length n2)/\W.cell? ⟨w.heap.size,2,none⟩=some (.slice A5 ca.length n5)/\W.cell? ⟨w.heap.size+1,0,none⟩=some (.slice A3 b.es.length n3)/\W.cell? ⟨w.heap.size+1,1,none⟩=some (.slice A4 b.ks.length n4)/\W.cell? ⟨w.heap.size+1,2,none⟩=some (.slice A6 cb.length n6))):=fun W hW=>by
  have g0:W.heap[w.heap.size]?=some (.cells #[.slice A1 a.es.length n1,.slice A2 a.ks.length n2,.slice A5 ca.length n5] 29 (0,0)):=(hW.block _ (by omega)).trans ((Qh (by simp<;>omega)).trans ((Qh (by simp)).trans (Qf rfl)))
  have g1:W.heap[w.heap.size+1]?=some (.cells #[.slice A3 b.es.length n3,.slice A4 b.ks.length n4,.slice A6 cb.length n6] 29 (0,0)):=(hW.block _ (by omega)).trans ((Qh (by simp)).trans (Qf (by simp)))
  have g2:W.heap[w.heap.size+2]?=some (.cells #[.slice none 0 0,.slice none 0 0,.slice none 0 0] 29 (0,0)):=(hW.block _ (by omega)).trans (Qf (by simp))
  exact⟨((((Below.refl _ w).alloc (Nat.le_refl _) _).alloc (by simp) _).alloc (by simp;omega) _).trans (hW.mono (by omega)),g2,by have:=hW.size;simpa using this,Qa (i:=0) g0,Qa (i:=1) g0,Qa (i:=2) g0,Qa (i:=0) g1,Qa (i:=1) g1,Qa (i:=2) g1⟩
 clear ha hb
 go_enter Tryz.func33,Tryz.ntmps33
 cases hc1:caR a ca
 ·have HR1:=hid hc1
  have HR2:Hid (caR b cb=caR b cb):=rfl
  have HE:Hid (jnE a b ca cb=1):=by unfold Hid jnE;rw[hc1];rfl
  have HTT:Hid (jnT a b ca cb=.mk [] []):=by unfold Hid jnT;rw[hc1];rfl
  have HCC:Hid (jnC a b ca cb=[]):=by unfold Hid jnC;rw[hc1];rfl
  clear hc1
  have hB0:=(HX.out _ (Below.refl _ _)).1
  go_wp2_with fail
  refine (Qq a ca _ _ _ _ (Qi hB0 hB0.size _ _ _ HA.out) (HCA.out _ hB0) hza hN1).mono ?_
  rw[HR1.out]
  rintro e w1 ⟨rfl,hb1⟩
  have hbq1:=hid (hb1.mono (show w.heap.size+3<=_ by simp))
  clear hb1 hB0
  obtain⟨hB1,hG,hsq,q0,q1,q2,q3,q4,q5⟩:=HX.out w1 hbq1.out
  have HG:=hid hG
  have k0:(w1).cell? ⟨w.heap.size+2,0,none⟩=some (.slice none 0 0):=Qa (i:=0) HG.out
  have k1:(w1).cell? ⟨w.heap.size+2,1,none⟩=some (.slice none 0 0):=Qa (i:=1) HG.out
  have k2:(w1).cell? ⟨w.heap.size+2,2,none⟩=some (.slice none 0 0):=Qa (i:=2) HG.out
  have z0:=Qb (i:=0) HG.out
  have z1:=Qb (i:=1) HG.out
  have z2:=Qb (i:=2) HG.out
  clear hG
  go_wp2_with fail
  obtain⟨r0,r1,r2,hK,hS⟩:=box3 HG.out (.slice none 0 0) (.slice none 0 0) (.slice none 0 0)
  have hBW:=((hB1.setCell (p:=⟨w.heap.size+2,0,none⟩) (by simp) (.slice none 0 0)).setCell (p:=⟨w.heap.size+2,1,none⟩) (by simp) (.slice none 0 0)).setCell (p:=⟨w.heap.size+2,2,none⟩) (by simp) (.slice none 0 0)
  refine bodyPost_ret (v:=.tuple #[.agg #[.slice none 0 0,.slice none 0 0,.slice none 0 0],.int .i64 1]) (by simp[results,Tryz.results33,go_sem,r0,r1,r2]) rfl ⟨_,_,_,by rw[HE.out],?_,?_,hBW⟩
  ·rw[HTT.out];exact Jr _ _
  ·rw[HCC.out];exact SlA.nil
 cases hc2:caR b cb
 ·have HR1:=hid hc1
  have HR2:=hid hc2
  have HE:Hid (jnE a b ca cb=1):=by unfold Hid jnE;rw[hc1,hc2];rfl
  have HTT:Hid (jnT a b ca cb=.mk [] []):=by unfold Hid jnT;rw[hc1,hc2];rfl
  have HCC:Hid (jnC a b ca cb=[]):=by unfold Hid jnC;rw[hc1,hc2];rfl
  clear hc1 hc2
  have hB0:=(HX.out _ (Below.refl _ _)).1
  go_wp2_with fail
  refine (Qq a ca _ _ _ _ (Qi hB0 hB0.size _ _ _ HA.out) (HCA.out _ hB0) hza hN1).mono ?_
  rw[HR1.out]
  rintro e w1 ⟨rfl,hb1⟩
  have hbq1:=hid (hb1.mono (show w.heap.size+3<=_ by simp))
  clear hb1 hB0
  obtain⟨hB1,hG,hsq,q0,q1,q2,q3,q4,q5⟩:=HX.out w1 hbq1.out
  have HG:=hid hG
  have k0:(w1).cell? ⟨w.heap.size+2,0,none⟩=some (.slice none 0 0):=Qa (i:=0) HG.out
  have k1:(w1).cell? ⟨w.heap.size+2,1,none⟩=some (.slice none 0 0):=Qa (i:=1) HG.out
  have k2:(w1).cell? ⟨w.heap.size+2,2,none⟩=some (.slice none 0 0):=Qa (i:=2) HG.out
  have z0:=Qb (i:=0) HG.out
  have z1:=Qb (i:=1) HG.out
  have z2:=Qb (i:=2) HG.out
  clear hG
  go_wp2_with fail
  refine (Qq b cb _ _ _ w1 (Qi hB1 hB1.size _ _ _ HB.out) (HCB.out _ hB1) hzb hN2).mono ?_
  rw[HR2.out]
  rintro e w2 ⟨rfl,hb2⟩
  have hbq2:=hid (hbq1.out.trans (hb2.mono hsq))
  clear hb2 hB1 k0 k1 k2 z0 z1 z2 q0 q1 q2 q3 q4 q5 hsq HG
  obtain⟨hB1,hG,hsq,q0,q1,q2,q3,q4,q5⟩:=HX.out w2 hbq2.out
  have HG:=hid hG
  have k0:(w2).cell? ⟨w.heap.size+2,0,none⟩=some (.slice none 0 0):=Qa (i:=0) HG.out
  have k1:(w2).cell? ⟨w.heap.size+2,1,none⟩=some (.slice none 0 0):=Qa (i:=1) HG.out
  have k2:(w2).cell? ⟨w.heap.size+2,2,none⟩=some (.slice none 0 0):=Qa (i:=2) HG.out
  have z0:=Qb (i:=0) HG.out
  have z1:=Qb (i:=1) HG.out
  have z2:=Qb (i:=2) HG.out
  clear hG
  go_wp2_with fail
  obtain⟨r0,r1,r2,hK,hS⟩:=box3 HG.out (.slice none 0 0) (.slice none 0 0) (.slice none 0 0)
  have hBW:=((hB1.setCell (p:=⟨w.heap.size+2,0,none⟩) (by simp) (.slice none 0 0)).setCell (p:=⟨w.heap.size+2,1,none⟩) (by simp) (.slice none 0 0)).setCell (p:=⟨w.heap.size+2,2,none⟩) (by simp) (.slice none 0 0)
  refine bodyPost_ret (v:=.tuple #[.agg #[.slice none 0 0,.slice none 0 0,.slice none 0 0],.int .i64 1]) (by simp[results,Tryz.results33,go_sem,r0,r1,r2]) rfl ⟨_,_,_,by rw[HE.out],?_,?_,hBW⟩
  ·rw[HTT.out];exact Jr _ _
  ·rw[HCC.out];exact SlA.nil
 ·have HR1:=hid hc1
  have HR2:=hid hc2
  have HE:Hid (jnE a b ca cb=0):=by unfold Hid jnE;rw[hc1,hc2];rfl
  have HTT:Hid (jnT a b ca cb=joinT 6 ca cb a b):=by unfold Hid jnT;rw[hc1,hc2];rfl
  have HCC:Hid (jnC a b ca cb=ctxBy ca cb 0):=by unfold Hid jnC;rw[hc1,hc2];rfl
  have HOA:=hid (XC hc1)
  have HOB:=hid (XC hc2)
  have HDA:=hid (YN hc1)
  have HDB:=hid (YN hc2)
  have HPA:=hid (ZX hc1)
  have HPB:=hid (ZX hc2)
  clear hc1 hc2
  have hB0:=(HX.out _ (Below.refl _ _)).1
  go_wp2_with fail
  refine (Qq a ca _ _ _ _ (Qi hB0 hB0.size _ _ _ HA.out) (HCA.out _ hB0) hza hN1).mono ?_
  rw[HR1.out]
  rintro e w1 ⟨rfl,hb1⟩
  have hbq1:=hid (hb1.mono (show w.heap.size+3<=_ by simp))
  clear hb1 hB0
  obtain⟨hB1,hG,hsq,q0,q1,q2,q3,q4,q5⟩:=HX.out w1 hbq1.out
  have HG:=hid hG
  have k0:(w1).cell? ⟨w.heap.size+2,0,none⟩=some (.slice none 0 0):=Qa (i:=0) HG.out
  have k1:(w1).cell? ⟨w.heap.size+2,1,none⟩=some (.slice none 0 0):=Qa (i:=1) HG.out
  have k2:(w1).cell? ⟨w.heap.size+2,2,none⟩=some (.slice none 0 0):=Qa (i:=2) HG.out
  have z0:=Qb (i:=0) HG.out
  have z1:=Qb (i:=1) HG.out
  have z2:=Qb (i:=2) HG.out
  clear hG
  go_wp2_with fail
  refine (Qq b cb _ _ _ w1 (Qi hB1 hB1.size _ _ _ HB.out) (HCB.out _ hB1) hzb hN2).mono ?_
  rw[HR2.out]
  rintro e w2 ⟨rfl,hb2⟩
  have hbq2:=hid (hbq1.out.trans (hb2.mono hsq))
  clear hb2 hB1 k0 k1 k2 z0 z1 z2 q0 q1 q2 q3 q4 q5 hsq HG
  obtain⟨hB1,hG,hsq,q0,q1,q2,q3,q4,q5⟩:=HX.out w2 hbq2.out
  have HG:=hid hG
  have k0:(w2).cell? ⟨w.heap.size+2,0,none⟩=some (.slice none 0 0):=Qa (i:=0) HG.out
  have k1:(w2).cell? ⟨w.heap.size+2,1,none⟩=some (.slice none 0 0):=Qa (i:=1) HG.out
  have k2:(w2).cell? ⟨w.heap.size+2,2,none⟩=some (.slice none 0 0):=Qa (i:=2) HG.out
  have z0:=Qb (i:=0) HG.out
  have z1:=Qb (i:=1) HG.out
  have z2:=Qb (i:=2) HG.out
  clear hG
  go_wp2_with fail
  refine (VA ca cb 6 a b _ _ _ _ _ _ w2 (Qi hB1 hB1.size _ _ _ HA.out) (Qi hB1 hB1.size _ _ _ HB.out) (HCA.out _ hB1) (HCB.out _ hB1) HOA.out HOB.out HDA.out HDB.out (by omega) (by omega) HPA.out HPB.out hN1 hN2).mono ?_
  rintro e w5 ⟨ve,vk,vc,rfl,hrd5,hsl5,hb5⟩
  obtain⟨A7,n7,A8,n8,rfl,rfl⟩:=Q5 hrd5
  have HS5:=hid hsl5
  obtain⟨A9,n9,hv9,_⟩:=hsl5
  subst hv9
  have HR5:=hid hrd5
  have hs25:=hb5.size
  have hs2:=hsq
  have hbq5:=hid (hbq2.out.trans (hb5.mono hsq))
  clear hrd5 hb5 hB1 k0 k1 k2 z0 z1 z2 q0 q1 q2 q3 q4 q5 hsq HG
  obtain⟨hB1,hG,hsq,q0,q1,q2,q3,q4,q5⟩:=HX.out w5 hbq5.out
  have HG:=hid hG
  have k0:(w5).cell? ⟨w.heap.size+2,0,none⟩=some (.slice none 0 0):=Qa (i:=0) HG.out
  have k1:(w5).cell? ⟨w.heap.size+2,1,none⟩=some (.slice none 0 0):=Qa (i:=1) HG.out
  have k2:(w5).cell? ⟨w.heap.size+2,2,none⟩=some (.slice none 0 0):=Qa (i:=2) HG.out
  have z0:=Qb (i:=0) HG.out
  have z1:=Qb (i:=1) HG.out
  have z2:=Qb (i:=2) HG.out
  clear hG
  go_wp2_with fail
  obtain⟨r0,r1,r2,hK,hS⟩:=box3 HG.out (.slice A7 (joinT 6 ca cb a b).es.length n7) (.slice A8 (joinT 6 ca cb a b).ks.length n8) (.slice A9 (ctxBy ca cb 0).length n9)
  have hBW:Below w.heap.size w (((w5.setCell ⟨w.heap.size+2,0,none⟩ (.slice A7 (joinT 6 ca cb a b).es.length n7)).setCell ⟨w.heap.size+2,1,none⟩ (.slice A8 (joinT 6 ca cb a b).ks.length n8)).setCell ⟨w.heap.size+2,2,none⟩ (.slice A9 (ctxBy ca cb 0).length n9)):=((hB1.setCell (by simp) _).setCell (by simp) _).setCell (by simp) _
  clear k0 k1 k2 z0 z1 z2
  generalize (((w5.setCell ⟨w.heap.size+2,0,none⟩ (.slice A7 (joinT 6 ca cb a b).es.length n7)).setCell ⟨w.heap.size+2,1,none⟩ (.slice A8 (joinT 6 ca cb a b).ks.length n8)).setCell ⟨w.heap.size+2,2,none⟩ (.slice A9 (ctxBy ca cb 0).length n9))=W at *
  refine bodyPost_ret (v:=.tuple #[.agg #[.slice A7 (joinT 6 ca cb a b).es.length n7,.slice A8 (joinT 6 ca cb a b).ks.length n8,.slice A9 (ctxBy ca cb 0).length n9],.int .i64 0]) (by simp[results,Tryz.results33,go_sem,r0,r1,r2]) rfl ⟨_,_,_,by rw[HE.out],?_,?_,hBW⟩
  ·rw[HTT.out]
   exact Zi (fun b hb=>hK b (by have:=hb.1;omega)) (fun b hb=>⟨by have:=hb.1;omega,by have:=hb.2;omega⟩) _ _ _ HR5.out
  ·rw[HCC.out]
   exact HS5.out.up (fun b hb=>hK b (by have:=hb.1;omega)) (fun b hb=>⟨by have:=hb.1;omega,by have:=hb.2;omega⟩) (fun _ _ _ h=>h)
/-! contexts by their dots -/
theorem KF (a b:List Sp)(how:Int){i:Nat}(hi:i<4):partL (ctxBy a b how) i=byL (partL a i) (partL b i) how:=by
 rw[YM,Zf,if_pos hi]
theorem Zs {c:List Sp}(h:Qm c=true){i:Nat}(hi:i<4):∀ r∈partL c i,runOk r:=XB _ none (QT h hi)
theorem qQj {a b:List Sp}(ha:Qm a=true)(hb:Qm b=true)(how:Int):Qm (ctxBy a b how)=true:=by
 rw[YM]
 exact YK fun i hi=>(ZS how (Zs ha hi) (Zs hb hi)).1
theorem qZj {a b:List Sp}(ha:Qm a=true)(hb:Qm b=true)(how:Int){d:Dt}(hd:d.right=true):hasC (ctxBy a b how) d=inn how (hasC a d) (hasC b d):=by
 have h1:=(qQh hd).1
 obtain⟨i,hi⟩:∃ i:Nat,(i:Int)=d.dc:=⟨d.dc.toNat,by omega⟩
 have h4:i<4:=by omega
 unfold hasC
 rw[hd,←hi,KF a b how h4,(ZS how (Zs ha h4) (Zs hb h4)).2]
 simp
theorem KG {c:List Sp}{d:Dt}(h:hasC c d=true):d.right=true:=by unfold hasC at h;rw[Bool.and_eq_true]at h;exact h.1
theorem KH {a b:List Sp}(ha:Qm a=true)(hb:Qm b=true)(d:Dt):hasC (ctxBy a b 2) d=(hasC a d&&!hasC b d):=by
 cases hd:d.right
 ·unfold hasC;simp[hd]
 ·rw[qZj ha hb 2 hd];rfl
theorem VC {l:List (Int×Int)}(h:∀ r∈l,runOk r){n:Int}(hn:hasL l n=true):1<=n/\n<=1099511627776:=by
 unfold hasL at hn
 obtain⟨r,hr,h1⟩:=List.any_eq_true.1 hn
 have:=h r hr
 unfold runOk at this
 unfold inR at h1
 simp at h1
 omega
theorem qQk {i:Nat}(hi:i<4){n:Int}(h:1<=n/\n<=1099511627776):(⟨i,n⟩:Dt).right=true:=by
 unfold Dt.right;simp;omega
theorem VD {a b:List Sp}(ha:Qm a=true)(hb:Qm b=true)(h:∀ d,hasC a d=hasC b d):a=b:=by
 rw[←Xb ha,←Xb hb]
 refine qQb fun i hi=>YD _ _ none none (QT ha hi) (QT hb hi) fun n=>?_
 by_cases hn:1<=n/\n<=1099511627776
 ·have:=h ⟨i,n⟩
  unfold hasC at this
  rw[qQk hi hn]at this
  simpa using this
 ·have e1:hasL (partL a i) n=false:=by
   cases hc:hasL (partL a i) n
   ·rfl
   ·exact absurd (VC (Zs ha hi) hc) hn
  have e2:hasL (partL b i) n=false:=by
   cases hc:hasL (partL b i) n
   ·rfl
   ·exact absurd (VC (Zs hb hi) hc) hn
  rw[e1,e2]
theorem Jd:Qm []=true:=by kernel_rfl
theorem Kb (d:Dt):hasC [] d=false:=by unfold hasC partL hasL;simp
theorem qZk {c:List Sp}(hc:Qm c=true):c=[]↔∀ d,hasC c d=false:=by
 constructor
 ·rintro rfl;exact Kb
 ·intro h;exact VD hc Jd fun d=>by rw[h,Kb]
theorem Kc {a b:List Sp}(ha:Qm a=true)(hb:Qm b=true):cLeq a b=true↔∀ d,hasC a d=true->hasC b d=true:=by
 unfold cLeq
 rw[ha,hb,Bool.true_and,Bool.true_and,decide_eq_true_eq,List.length_eq_zero_iff,qZk (qQj ha hb 2)]
 refine forall_congr' fun d=>?_
 rw[KH ha hb]
 cases hasC a d<;>cases hasC b d<;>simp
/-! right trees by their leaves -/
theorem VE:∀ (es:List En) (p:Option Dt),(es.Pairwise fun a b=>a.dot.lt b.dot=true)->(∀ e∈es,okP p e.dot=true)->(∀ e∈es,e.right=true)->entsB p es=true
 |[],_,_,_,_=>by unfold entsB;rfl
 |e :: es,p,h,h1,h2=>by
  obtain⟨h3,h4⟩:=List.pairwise_cons.1 h
  rw[QQ,h2 e (by simp),h1 e (by simp),VE es (some e.dot) h4 (fun a ha=>h3 a ha) fun a ha=>h2 a (by simp[ha])];rfl
theorem VF (d:Int):∀ (ks:List Kd) (p:Option ByteArray),(ks.Pairwise fun a b=>ltS a.1 b.1=true)->(∀ x∈ks,okK p x.1=true)->(∀ k t,(k,t)∈ks->keyB k=true/\t.empty=false/\t.right (d-1)=true)->Tr.rightL p ks d=true
 |[],p,_,_,_=>by cases p<;>rw[Tr.rightL]
 |(k,t) :: ks,p,h,h1,h2=>by
  obtain⟨h3,h4⟩:=List.pairwise_cons.1 h
  obtain⟨g1,g2,g3⟩:=h2 k t (by simp)
  rw[QE,g1,g2,g3,h1 (k,t) (by simp),VF d ks (some k) h4 (fun a ha=>h3 a ha) fun k' t' hm=>h2 k' t' (by simp[hm])];rfl
def LfR (n:Int)(x:Lf):Prop:=(x.1.length:Int)+1<=n/\(∀ k∈x.1,keyB k=true)/\x.2.right=true
theorem Yb:∀ (t:Tr) (n:Int),t.right n=true->∀ x∈t.lvs [],LfR n x:=by
 intro t
 induction t using Tr.ind with
 |h es ks ih=>
 intro n h x hx
 rw[Tr.right,Bool.and_eq_true,Bool.and_eq_true]at h
 have hn:=of_decide_eq_true h.1.1
 obtain⟨p,e⟩:=x
 match p with
 |[]=>
  have he:=ZC.1 hx
  refine⟨by simpa using hn,by simp,?_⟩
  have:∀ (es:List En) (p:Option Dt),entsB p es=true->∀ e∈es,e.right=true:=by
   intro es
   induction es with
   |nil=>intro _ _ _ h;cases h
   |cons y es ih=>
    intro p h e he
    rw[QQ,Bool.and_eq_true,Bool.and_eq_true]at h
    rcases List.mem_cons.1 he with rfl|he
    ·exact h.1.1
    ·exact ih _ h.2 e he
  exact this es none h.1.2 e he
 |k :: qs=>
  obtain⟨t,hm,hx⟩:=Qt.1 hx
  have hk:∀ (ks:List Kd) (p:Option ByteArray),Tr.rightL p ks n=true->∀ k t,(k,t)∈ks->keyB k=true/\t.right (n-1)=true:=by
   intro ks
   induction ks with
   |nil=>intro _ _ _ _ h;cases h
   |cons y ks ih=>
    obtain⟨y1,y2⟩:=y
    intro p h k t he
    rw[QE,Bool.and_eq_true,Bool.and_eq_true,Bool.and_eq_true,Bool.and_eq_true]at h
    obtain⟨⟨⟨⟨a1,a2⟩,a3⟩,a4⟩,a5⟩:=h
    rcases List.mem_cons.1 he with he|he
    ·cases he;exact⟨a1,a4⟩
    ·exact ih _ a5 k t he
  obtain⟨h1,h2⟩:=hk ks none h.2 k t hm
  obtain⟨g1,g2,g3⟩:=ih k t hm _ h2 _ hx
  exact⟨by simp at g1 ⊢;omega,fun q hq=>by
   rcases List.mem_cons.1 hq with rfl|hq
   ·exact h1
   ·exact g2 q hq,g3⟩
theorem XD:∀ (t:Tr) (n:Int),1<=n->t.Ord->(∀ x∈t.lvs [],LfR n x)->t.right n=true:=by
 intro t
 induction t using Tr.ind with
 |h es ks ih=>
 intro n hn ho hl
 obtain⟨h1,h2,h3⟩:=Zn.1 ho
 rw[Tr.right,Bool.and_eq_true,Bool.and_eq_true]
 refine⟨⟨by simpa using hn,VE es none h1 (fun _ _=>rfl) fun e he=>(hl ([],e) (ZC.2 he)).2.2⟩,VF n ks none h2 (fun _ _=>rfl) fun k t hm=>?_⟩
 obtain⟨g1,g2,g3⟩:=h3 k t hm
 have hsub:∀ x∈t.lvs [],LfR (n-1) x/\keyB k=true:=by
  rintro⟨qs,e⟩ hx
  obtain⟨f1,f2,f3⟩:=hl (k :: qs,e) (Qt.2 ⟨t,hm,hx⟩)
  exact⟨⟨by simp at f1 ⊢;omega,fun q hq=>f2 q (by simp[hq]),f3⟩,f2 k (by simp)⟩
 obtain⟨x,hx⟩:=Xu t g3 g2
 have hd:=(hsub x hx).1.1
 exact⟨(hsub x hx).2,g2,ih k t hm (n-1) (by omega) g3 fun x hx=>(hsub x hx).1⟩
theorem VG {t:Tr}(h:t.Ord):t.right 5=true↔∀ x∈t.lvs [],LfR 5 x:=⟨Yb t 5,XD t 5 (by omega) h⟩
/-! the dots of a tree -/
theorem VH {ks:List Kd}{d:Dt}:d∈Tr.dotsL ks↔∃ k t,(k,t)∈ks/\d∈t.dots:=by
 induction ks with
 |nil=>simp[Tr.dotsL]
 |cons y ks ih=>
  obtain⟨k,t⟩:=y
  rw[Tr.dotsL,List.mem_append,ih]
  constructor
  ·rintro (h|⟨k',t',hm,h⟩)
   ·exact⟨k,t,by simp,h⟩
   ·exact⟨k',t',by simp[hm],h⟩
  ·rintro⟨k',t',hm,h⟩
   rcases List.mem_cons.1 hm with e|hm
   ·cases e;exact .inl h
   ·exact .inr ⟨k',t',hm,h⟩
theorem XE (t:Tr):∀ d,d∈t.dots↔∃ p e,((p,e):Lf)∈t.lvs []/\e.dot=d:=by
 induction t using Tr.ind with
 |h es ks ih=>
 intro d
 rw[Tr.dots,List.mem_append,List.mem_map,VH]
 constructor
 ·rintro (⟨e,he,rfl⟩|⟨k,t,hm,hd⟩)
  ·exact⟨[],e,ZC.2 he,rfl⟩
  ·obtain⟨p,e,hp,rfl⟩:=(ih k t hm d).1 hd
   exact⟨k :: p,e,Qt.2 ⟨t,hm,hp⟩,rfl⟩
 ·rintro⟨p,e,hx,rfl⟩
  match p with
  |[]=>exact .inl ⟨e,ZC.1 hx,rfl⟩
  |k :: qs=>
   obtain⟨t,hm,hx⟩:=Qt.1 hx
   exact .inr ⟨k,t,hm,(ih k t hm _).2 ⟨qs,e,hx,rfl⟩⟩
theorem Je {e:En}(h:e.right=true):e.dot.right=true:=by
 unfold En.right at h;simp at h;exact h.1
theorem Za {t:Tr}(h:t.right 5=true):∀ d∈t.dots,d.right=true:=fun d hd=>by
 obtain⟨p,e,hx,rfl⟩:=(XE t d).1 hd
 exact Je (Yb t 5 h _ hx).2.2
theorem Jf {t:Tr}(h:t.right 5=true){d:Dt}:hasC (ctxOf t.dots) d=true↔d∈t.dots:=by
 constructor
 ·intro hc;rw[Y8 (Za h) (KG hc)]at hc;simpa using hc
 ·intro hm;rw[Y8 (Za h) (Za h d hm)];simpa using hm
/-! what is known, right -/
structure CaOk (t:Tr)(c:List Sp):Prop where
 ord:t.Ord
 leaf:∀ x∈t.lvs [],LfR 5 x
 ap:Qm c=true
 has:∀ x∈t.lvs [],hasC c x.2.dot=true
theorem qZl {t:Tr}{c:List Sp}:caR t c=true↔CaOk t c:=by
 unfold caR
 rw[Bool.and_eq_true]
 constructor
 ·rintro⟨h1,h2⟩
  have hc:Qm c=true:=by unfold cLeq at h2;simp only[Bool.and_eq_true]at h2;exact h2.2.1
  refine⟨XP t 5 h1,Yb t 5 h1,hc,fun x hx=>?_⟩
  have ha:=Zg (Za h1)
  exact (Kc ha hc).1 h2 _ ((Jf h1).2 ((XE t _).2 ⟨x.1,x.2,hx,rfl⟩))
 ·rintro⟨h1,h2,h3,h4⟩
  have hr:=(VG h1).2 h2
  refine⟨hr,(Kc (Zg (Za hr)) h3).2 fun d hd=>?_⟩
  obtain⟨p,e,hx,rfl⟩:=(XE t d).1 ((Jf hr).1 hd)
  exact h4 _ hx
theorem CaOk.dep {t:Tr}{c:List Sp}(h:CaOk t c):t.dep<=6:=YN (qZl.2 h)
theorem CaOk.ext {s t:Tr}{c d:List Sp}(h:CaOk s c)(k:CaOk t d)(hl:∀ p e,((p,e):Lf)∈s.lvs []↔((p,e):Lf)∈t.lvs [])(hd:∀ x,hasC c x=hasC d x):s=t/\c=d:=
 ⟨qZa s t h.ord k.ord fun ⟨p,e⟩=>hl p e,VD h.ap k.ap hd⟩
theorem box3a {w:World}{g:Nat}{x y z:Value}{e:TypeId}(hbx:w.heap[g]?=some (.cells #[x,y,z] e (0,0)))(a b c:Value)(o:Obj) :
  ((((w.setCell ⟨g,0,none⟩ a).setCell ⟨g,1,none⟩ b).setCell ⟨g,2,none⟩ c).alloc o).cell? ⟨g,0,none⟩=some a/\((((w.setCell ⟨g,0,none⟩ a).setCell ⟨g,1,none⟩ b).setCell ⟨g,2,none⟩ c).alloc o).cell? ⟨g,1,none⟩=some b/\((((w.setCell ⟨g,0,none⟩ a).setCell ⟨g,1,none⟩ b).setCell ⟨g,2,none⟩ c).alloc o).cell? ⟨g,2,none⟩=some c /\
   (∀ k,k≠g->k<w.heap.size->((((w.setCell ⟨g,0,none⟩ a).setCell ⟨g,1,none⟩ b).setCell ⟨g,2,none⟩ c).alloc o).heap[k]?=w.heap[k]?)/\((((w.setCell ⟨g,0,none⟩ a).setCell ⟨g,1,none⟩ b).setCell ⟨g,2,none⟩ c).alloc o).heap.size=w.heap.size+1 /\
   ((((w.setCell ⟨g,0,none⟩ a).setCell ⟨g,1,none⟩ b).setCell ⟨g,2,none⟩ c).alloc o).heap[g]?=some (.cells #[a,b,c] e (0,0)):=by
 obtain⟨r0,r1,r2,hK,hS⟩:=box3 hbx a b c
 have hg:=lt_of_block hbx
 have hW:=Qe (i:=2) (Qe (i:=1) (Qe (i:=0) hbx a) b) c
 have hW':((((w.setCell ⟨g,0,none⟩ a).setCell ⟨g,1,none⟩ b).setCell ⟨g,2,none⟩ c).alloc o).heap[g]?=some (.cells #[a,b,c] e (0,0)):=(Qh (by rw[hS];exact hg)).trans (by simpa using hW)
 exact⟨Qa (i:=0) hW',Qa (i:=1) hW',Qa (i:=2) hW',fun k hk hk'=>(Qh (by rw[hS];exact hk')).trans (hK k hk),by rw[World.size_alloc,hS],hW'⟩
theorem KI {B:Nat}{w0 w:World}{g:Nat}(h:Below B w0 w)(hg:B<=g)(hB:B<=w.heap.size)(a b c:Value)(o:Obj):Below B w0 ((((w.setCell ⟨g,0,none⟩ a).setCell ⟨g,1,none⟩ b).setCell ⟨g,2,none⟩ c).alloc o):=
 (((h.setCell hg _).setCell hg _).setCell hg _).alloc (by simp[World.setCell];exact hB) _
def CaE (w:World)(B:Nat)(x:Tr×List Sp)(cs:List Value):Prop:=∃ ve vk vc,cs=[ve,vk,vc]/\x.1.rd w B ve vk/\SlP w B 3 SpE vc x.2
theorem JB (l:List (Tr×List Sp))(vl:Value)(w:World)(h:SlP w w.heap.size 3 (CaE w w.heap.size) vl l) :
  Calls Tryz.prog 9 #[vl] w fun e w'=>e=.returned (.bool (l.all fun x=>sml9 x.1 x.2 40))/\Below w.heap.size w w':=by
 obtain⟨A,m,rfl,c1,c2,c3⟩:=h
 unfold Big at c2
 go_enter Tryz.func9,Tryz.ntmps9
 go_wp2_with fail
 go_loopw [6] (fun i wr=>∃ k:Nat,k<=l.length/\i=.int .i64 k/\Hid ((l.take k).all (fun x=>sml9 x.1 x.2 40)=true)/\Below w.heap.size w wr) (fun i _=>l.length-(intOf i).toNat)
 case atStart=>exact⟨0,Nat.zero_le _,rfl,by unfold Hid;simp,Below.refl _ _⟩
 case round=>
  obtain⟨k,hk,rfl,hall,hb⟩:=hrel
  by_cases hlt:k<l.length
  ·obtain⟨⟨t,c⟩,hx⟩:∃ x,l[k]?=some x:=⟨_,List.getElem?_eq_getElem hlt⟩
   obtain⟨b,off,rfl,hbB,hc⟩:=c3 (by rintro rfl;simp at hlt)
   obtain⟨cs,⟨ve,vk,vc,rfl,hrd,hsl⟩,_,hu⟩:=hc k _ hx
   obtain⟨A3,n3,A4,n4,rfl,rfl⟩:=Qk hrd
   obtain⟨A5,n5,hv5,_⟩:=id hsl
   simp only at hv5 hrd hsl
   subst hv5
   have e0:wr.cell? ⟨b,off+k*3,none⟩=some (.slice A3 t.es.length n3):=(hb.cell hbB).trans (hu 0 _ rfl)
   have e1:wr.cell? ⟨b,off+k*3+1,none⟩=some (.slice A4 t.ks.length n4):=(hb.cell hbB).trans (hu 1 _ rfl)
   have e2:wr.cell? ⟨b,off+k*3+2,none⟩=some (.slice A5 c.length n5):=(hb.cell hbB).trans (hu 2 _ rfl)
   have HRD:=hid (Qi hb hb.size _ _ _ hrd)
   have HSL:Hid (SlP wr wr.heap.size 3 SpE (.slice A5 c.length n5) c):=hsl.imp hb hb.size fun _ _ _ h=>h
   have hmem:=List.mem_of_getElem? hx
   have htk:l.take (k+1)=l.take k++[(t,c)]:=by rw[List.take_add_one,hx];rfl
   have HTK:=hid htk
   have HME:=hid hmem
   clear hu hc c3 hx hrd hsl hmem htk
   go_wp2_with fail
   refine (Jc t c 40 _ _ _ wr HRD.out HSL.out (by omega) (by omega)).mono ?_
   cases hs:sml9 t c 40
   ·rintro e w1 ⟨rfl,hb1⟩
    have HS:=hid hs
    clear hs
    go_wp2_with fail
    go_ret
    exact⟨Qd (List.all_eq_false.2 ⟨_,HME.out,by simp[HS.out]⟩).symm,hb.trans (hb1.mono hb.size)⟩
   ·rintro e w1 ⟨rfl,hb1⟩
    have HS:=hid hs
    clear hs
    go_wp2_with fail
    go_roundw
    case rel=>exact⟨k+1,by omega,by go_num,by unfold Hid;rw[HTK.out,List.all_append,hall.out];simp[HS.out],hb.trans (hb1.mono hb.size)⟩
    case measure=>simp[intOf];omega
  ·obtain rfl:k=l.length:=by omega
   rw[List.take_of_length_le (Nat.le_refl _)]at hall
   go_wp2_with fail
   go_ret
   exact⟨Qd hall.out.symm,hb⟩
theorem Zh (l:List (Tr×List Sp))(vl:Value)(w:World)(h:SlP w w.heap.size 3 (CaE w w.heap.size) vl l)(hN:∀ x∈l,x.1.sz<=4000/\x.2.length<=20000) :
  Calls Tryz.prog 11 #[vl] w fun e w'=>e=.returned (.bool (l.all fun x=>caR x.1 x.2))/\Below w.heap.size w w':=by
 obtain⟨A,m,rfl,c1,c2,c3⟩:=h
 unfold Big at c2
 go_enter Tryz.func11,Tryz.ntmps11
 go_wp2_with fail
 go_loopw [6] (fun i wr=>∃ k:Nat,k<=l.length/\i=.int .i64 k/\Hid ((l.take k).all (fun x=>caR x.1 x.2)=true)/\Below w.heap.size w wr) (fun i _=>l.length-(intOf i).toNat)
 case atStart=>exact⟨0,Nat.zero_le _,rfl,by unfold Hid;simp,Below.refl _ _⟩
 case round=>
  obtain⟨k,hk,rfl,hall,hb⟩:=hrel
  by_cases hlt:k<l.length
  ·obtain⟨⟨t,c⟩,hx⟩:∃ x,l[k]?=some x:=⟨_,List.getElem?_eq_getElem hlt⟩
   obtain⟨b,off,rfl,hbB,hc⟩:=c3 (by rintro rfl;simp at hlt)
   obtain⟨cs,⟨ve,vk,vc,rfl,hrd,hsl⟩,_,hu⟩:=hc k _ hx
   obtain⟨A3,n3,A4,n4,rfl,rfl⟩:=Qk hrd
   obtain⟨A5,n5,hv5,_⟩:=id hsl
   simp only at hv5 hrd hsl
   subst hv5
   have e0:wr.cell? ⟨b,off+k*3,none⟩=some (.slice A3 t.es.length n3):=(hb.cell hbB).trans (hu 0 _ rfl)
   have e1:wr.cell? ⟨b,off+k*3+1,none⟩=some (.slice A4 t.ks.length n4):=(hb.cell hbB).trans (hu 1 _ rfl)
   have e2:wr.cell? ⟨b,off+k*3+2,none⟩=some (.slice A5 c.length n5):=(hb.cell hbB).trans (hu 2 _ rfl)
   have HRD:=hid (Qi hb hb.size _ _ _ hrd)
   have HSL:Hid (SlP wr wr.heap.size 3 SpE (.slice A5 c.length n5) c):=hsl.imp hb hb.size fun _ _ _ h=>h
   have hmem:=List.mem_of_getElem? hx
   have htk:l.take (k+1)=l.take k++[(t,c)]:=by rw[List.take_add_one,hx];rfl
   have HTK:=hid htk
   have HME:=hid hmem
   have HN:=hid (hN _ hmem)
   clear hu hc c3 hx hrd hsl hmem htk
   go_wp2_with fail
   have hr9:r9R t c=caR t c:=(qQ4 t c).symm
   refine (Jb t c _ _ _ wr HRD.out HSL.out HN.out.1 HN.out.2).mono ?_
   rw[hr9]
   clear hr9
   cases hs:caR t c
   ·rintro e w1 ⟨rfl,hb1⟩
    have HS:=hid hs
    clear hs
    go_wp2_with fail
    go_ret
    exact⟨Qd (List.all_eq_false.2 ⟨_,HME.out,by simp[HS.out]⟩).symm,hb.trans (hb1.mono hb.size)⟩
   ·rintro e w1 ⟨rfl,hb1⟩
    have HS:=hid hs
    clear hs
    go_wp2_with fail
    go_roundw
    case rel=>exact⟨k+1,by omega,by go_num,by unfold Hid;rw[HTK.out,List.all_append,hall.out];simp[HS.out],hb.trans (hb1.mono hb.size)⟩
    case measure=>simp[intOf];omega
  ·obtain rfl:k=l.length:=by omega
   rw[List.take_of_length_le (Nat.le_refl _)]at hall
   go_wp2_with fail
   go_ret
   exact⟨Qd hall.out.symm,hb⟩
theorem VI {t:Tr}{c:List Sp}(h:sml9 t c 40=true):t.sz<=40/\c.length<=40:=by
 unfold sml9 at h
 rw[Bool.and_eq_true]at h
 have h1:=qZv h.1
 have h2:=of_decide_eq_true h.2
 omega
theorem slp2 {α:Type}{w:World}{g B:Nat}{E:α->List Value->Prop}{x y:α}{a0 a1 a2 b0 b1 b2:Value}{e:TypeId}(hG:w.heap[g]?=some (.cells #[a0,a1,a2,b0,b1,b2] e (0,0)))(hx:E x [a0,a1,a2])(hy:E y [b0,b1,b2])(hB:g<B) :
  SlP w B 3 E (.slice (some ⟨g,0,none⟩) 2 2) [x,y]:=by
 refine⟨_,2,rfl,Nat.le_refl _,by simp[Big],fun _=>⟨_,0,rfl,hB,fun j u hu=>?_⟩⟩
 match j,hu with
 |0,hu=>
  simp at hu;subst hu
  refine⟨_,hx,rfl,fun i v hi=>?_⟩
  match i,hi with
  |0,hi=>simp at hi;subst hi;exact Qa (i:=0) hG
  |1,hi=>simp at hi;subst hi;exact Qa (i:=1) hG
  |2,hi=>simp at hi;subst hi;exact Qa (i:=2) hG
  |i+3,hi=>simp at hi
 |1,hu=>
  simp at hu;subst hu
  refine⟨_,hy,rfl,fun i v hi=>?_⟩
  match i,hi with
  |0,hi=>simp at hi;subst hi;exact Qa (i:=3) hG
  |1,hi=>simp at hi;subst hi;exact Qa (i:=4) hG
  |2,hi=>simp at hi;subst hi;exact Qa (i:=5) hG
  |i+3,hi=>simp at hi
 |j+2,hu=>simp at hu
theorem kn_at {W:World}{B:Nat}{t:Tr}{c:List Sp}{ve vk vc:Value}(h:t.rd W B ve vk)(hc:SlP W B 3 SpE vc c):CaE W B (t,c) [ve,vk,vc]:=⟨_,_,_,rfl,h,hc⟩
theorem CaOk.nil:CaOk (.mk [] []) []:=⟨Vi,fun x h=>by simp[Tr.lvs,Tr.lvsL]at h,Jd,fun x h=>by simp[Tr.lvs,Tr.lvsL]at h⟩
abbrev Kn:=Tr×List Sp
theorem UFb.keep {w w':World}{ok:Nat->Prop}{b:Nat}(h:UFb w b)(hk:Keeps ok w w')(hb:ok b):UFb w' b:=h.up (hk b hb)
theorem UFb.set {w:World}{b:Nat}(h:UFb w b)(a:Addr)(v:Value):UFb (w.setCell a v) b:=fun o=>(YP _ _ _ _).trans (h o)
theorem UFb.sets {b q:Nat}:∀ (vs:List Value) (o:Nat) (w:World),UFb w b->UFb (w.setCells q o vs) b
 |[],_,_,h=>h
 |v :: r,o,w,h=>by rw[World.setCells];exact UFb.sets r _ _ (h.set _ _)
def SlU {α:Type}(w:World)(ok:Nat->Prop)(sz:Nat)(E:α->List Value->Prop)(v:Value)(xs:List α):Prop:=SlA w (fun b=>ok b/\UFb w b) sz E v xs
def Tr.rdu (w:World)(ok:Nat->Prop)(t:Tr)(ve vk:Value):Prop:=t.rda w (fun b=>ok b/\UFb w b) ve vk
def KdU (w:World)(ok:Nat->Prop)(p:Kd)(cs:List Value):Prop:=∃ ve vk,cs=[.string p.1,ve,vk]/\p.1.size<=Big/\p.2.rdu w ok ve vk
theorem SlU.up {α:Type}{w w':World}{ok ok':Nat->Prop}{sz:Nat}{E E':α->List Value->Prop}{v:Value}{xs:List α}(h:SlU w ok sz E v xs)(hk:Keeps ok w w')(ho:∀ b,ok b->ok' b)
  (hE:∀ x∈xs,∀ cs,E x cs->E' x cs):SlU w' ok' sz E' v xs:=SlA.up h (fun b hb=>hk b hb.1) (fun b hb=>⟨ho b hb.1,hb.2.keep hk hb.1⟩) hE
theorem Qu {w w':World}{ok ok':Nat->Prop}(hk:Keeps ok w w')(ho:∀ b,ok b->ok' b)(t:Tr)(ve vk:Value)(h:t.rdu w ok ve vk):t.rdu w' ok' ve vk:=Zi (fun b hb=>hk b hb.1) (fun b hb=>⟨ho b hb.1,hb.2.keep hk hb.1⟩) t ve vk h
theorem XF {w:World}{ok:Nat->Prop}{es:List En}{ks:List Kd}{ve vk:Value}:(Tr.mk es ks).rdu w ok ve vk↔SlU w ok 4 EnE ve es/\SlU w ok 3 (KdU w ok) vk ks:=Zz
theorem Ql {w:World}{ok:Nat->Prop}{t:Tr}{ve vk:Value}(h:t.rdu w ok ve vk):∃ A n A' m,ve=.slice A t.es.length n/\vk=.slice A' t.ks.length m:=Q5 h
theorem QJ {w w':World}{ok ok':Nat->Prop}(hk:Keeps ok w w')(ho:∀ b,ok b->ok' b)(t:Tr)(ve vk:Value)(h:t.rdu w ok ve vk):t.rda w' ok' ve vk:=Zi (fun b hb=>hk b hb.1) (fun b hb=>ho b hb.1) t ve vk h
theorem SlU.dn {α:Type}{w:World}{ok:Nat->Prop}{sz:Nat}{E:α->List Value->Prop}{v:Value}{xs:List α}(h:SlU w ok sz E v xs):SlA w ok sz E v xs:=SlA.up h (fun _ _=>rfl) (fun _ hb=>hb.1) fun _ _ _ h=>h
theorem KdU.mon:Emon KdU where
 up:=fun hk ho ⟨ve,vk,h1,h2,h3⟩=>⟨ve,vk,h1,h2,Qu hk ho _ _ _ h3⟩
 one:=by
  rintro w ok x cs ⟨ve,vk,rfl,_,h⟩
  obtain⟨A,n,A',m,rfl,rfl⟩:=Ql h
  simp[Value.oneCell']
theorem YQ (w:World)(ok:Nat->Prop):(Tr.mk [] []).rdu w ok (.slice none 0 0) (.slice none 0 0):=Jr _ _
theorem SlU.nil {α:Type}{w:World}{ok:Nat->Prop}{sz:Nat}{E:α->List Value->Prop}:SlU w ok sz E (.slice none 0 0) ([]:List α):=SlA.nil
theorem OwnP.slu {α:Type}{w:World}{base:Nat}{e:TypeId}{sz:Nat}{E:α->List Value->Prop}{v:Value}{xs:List α}(h:OwnP w base e sz E v xs)(hl:xs.length<=Big):SlU w (fun b=>base<=b/\b<w.heap.size/\v.ownBlock=some b) sz E v xs:=by
 by_cases hn:xs=[]
 ·subst hn
  obtain⟨A,c,hv,h1,h2,_⟩:=h.sla hl
  exact⟨A,c,hv,h1,h2,fun h=>absurd rfl h⟩
 ·obtain⟨g,cap,hv,_,_,hf⟩:=h.form hn
  refine SlA.up (h.sla hl) (fun _ _=>rfl) (fun b hb=>⟨hb,?_⟩) (fun _ _ _ h=>h)
  have hg:=hb.2.2
  rw[hv]at hg
  obtain rfl:g=b:=by simpa[Value.ownBlock] using hg
  exact hf
theorem Ys {w:World}{ok okq:Nat->Prop}{q:ByteArray}{t:Tr}{ve vk:Value}{B:Nat}(h:t.rdu w ok ve vk)(hq:q.size<=Big)(hok:∀ b,ok b->b<w.heap.size/\okq b)(e:TypeId)(hB:w.heap.size<B) :
  SlP (w.alloc (.cells #[.string q,ve,vk] e)) B 3 (KdU (w.alloc (.cells #[.string q,ve,vk] e)) okq) (.slice (some ⟨w.heap.size,0,none⟩) 1 1) [(q,t)]:=
 SlP.oneB (x:=(q,t)) (cs:=[.string q,ve,vk]) ⟨ve,vk,rfl,hq,Qu (fun b hb=>Qh (hok b hb).1) (fun b hb=>(hok b hb).2) _ _ _ h⟩ rfl e rfl hB
theorem VJ {w:World}{g:Nat}{t:Tr}{ok:Nat->Prop}{ve vk x y:Value}{e:TypeId}(hbx:w.heap[g]?=some (.cells #[x,y] e (0,0)))(h:t.rdu w ok ve vk)(hne:∀ b,ok b->b≠g) :
  ((w.setCell ⟨g,0,none⟩ ve).setCell ⟨g,1,none⟩ vk).cell? ⟨g,0,none⟩=some ve/\((w.setCell ⟨g,0,none⟩ ve).setCell ⟨g,1,none⟩ vk).cell? ⟨g,1,none⟩=some vk /\
   t.rdu ((w.setCell ⟨g,0,none⟩ ve).setCell ⟨g,1,none⟩ vk) ok ve vk/\((w.setCell ⟨g,0,none⟩ ve).setCell ⟨g,1,none⟩ vk).heap.size=w.heap.size:=by
 have hW:=Qe (i:=1) (Qe (i:=0) hbx ve) vk
 refine⟨(Qa (i:=0) hW).trans (by simp),(Qa (i:=1) hW).trans (by simp),Qu (fun b hb=>?_) (fun _ hb=>hb) _ _ _ h,by simp[World.setCell]⟩
 exact (Below.heap_setCell _ _ _ _ (hne b hb)).trans (Below.heap_setCell _ _ _ _ (hne b hb))
def RetTU (w:World)(t:Tr)(e:Ending)(w':World):Prop:=
 ∃ ve vk,e=.returned (.agg #[ve,vk])/\t.rdu w' (fun b=>w.heap.size<=b/\b<w'.heap.size) ve vk/\Below w.heap.size w w'
def RetCU (w:World)(t:Tr)(c:List Sp)(e:Ending)(w':World):Prop:=
 ∃ ve vk vc,e=.returned (.agg #[ve,vk,vc])/\t.rdu w' (fun b=>w.heap.size<=b/\b<w'.heap.size) ve vk/\SlU w' (fun b=>w.heap.size<=b/\b<w'.heap.size) 3 SpE vc c/\Below w.heap.size w w'
def qQ5 (w:World)(t:Tr)(c:List Sp)(k:Int)(e:Ending)(w':World):Prop:=
 ∃ ve vk vc,e=.returned (.tuple #[.agg #[ve,vk,vc],.int .i64 k])/\t.rdu w' (fun b=>w.heap.size<=b/\b<w'.heap.size) ve vk/\SlU w' (fun b=>w.heap.size<=b/\b<w'.heap.size) 3 SpE vc c/\Below w.heap.size w w'
theorem qZn {w:World}{ok:Nat->Prop}(t:Tr)(ve vk:Value)(h:t.rdu w ok ve vk):t.shp w ok ve vk:=qZm t ve vk h
theorem qQl {wr w7:World}{n N:Nat}{x y u v:Value}{e:TypeId}{t:Tr}(hbox:w7.heap[n]?=some (.cells #[x,y] e (0,0)))(hn:wr.heap.size<=n)(hb:Below wr.heap.size wr w7)(hr:t.rdu w7 (fun b=>N<=b/\b<w7.heap.size) u v)(hnN:n<N) :
  ∀ W,Below ((w7.setCell ⟨n,0,none⟩ u).setCell ⟨n,1,none⟩ v).heap.size ((w7.setCell ⟨n,0,none⟩ u).setCell ⟨n,1,none⟩ v) W->W.cell? ⟨n,0,none⟩=some u/\W.cell? ⟨n,1,none⟩=some v/\Below wr.heap.size wr W/\t.rdu W (fun b=>wr.heap.size<=b/\b<W.heap.size) u v:=by
 intro W hW
 have hsz:((w7.setCell ⟨n,0,none⟩ u).setCell ⟨n,1,none⟩ v).heap.size=w7.heap.size:=by simp[World.setCell]
 rw[hsz]at hW
 have hlt:=lt_of_block hbox
 have hg:W.heap[n]?=some (.cells #[u,v] e (0,0)):=(hW.block n hlt).trans (by simpa using Qe (i:=1) (Qe (i:=0) hbox u) v)
 have hs:=hW.size
 rw[hsz]at hs
 refine⟨Qa (i:=0) hg,Qa (i:=1) hg,((hb.setCell hn _).setCell hn _).trans (hW.mono hb.size),Qu (fun b hb'=>?_) (fun b hb'=>⟨by omega,by omega⟩) _ _ _ hr⟩
 rw[hW.block b hb'.2]
 exact (Below.heap_setCell _ _ _ _ (by simp;omega)).trans (Below.heap_setCell _ _ _ _ (by simp;omega))
theorem qQm {wr w7:World}{N:Nat}{u v:Value}{e:TypeId}{t:Tr}(hb:Below wr.heap.size wr w7)(hr:t.rdu w7 (fun b=>N<=b/\b<w7.heap.size) u v)(hN:wr.heap.size<=N) :
  ∀ W,Below (w7.alloc (.cells #[u,v] e)).heap.size (w7.alloc (.cells #[u,v] e)) W->W.cell? ⟨w7.heap.size,0,none⟩=some u/\W.cell? ⟨w7.heap.size,1,none⟩=some v/\Below wr.heap.size wr W/\t.rdu W (fun b=>wr.heap.size<=b/\b<W.heap.size) u v:=by
 intro W hW
 have hg:W.heap[w7.heap.size]?=some (.cells #[u,v] e (0,0)):=(hW.block _ (by simp)).trans (Qf rfl)
 have hs:=hW.size
 rw[World.size_alloc]at hs
 refine⟨Qa (i:=0) hg,Qa (i:=1) hg,(hb.alloc hb.size _).trans (hW.mono (by have:=hb.size;simp;omega)),Qu (fun b hb'=>?_) (fun b hb'=>⟨by omega,by omega⟩) _ _ _ hr⟩
 rw[hW.block b (by rw[World.size_alloc];omega)]
 exact Qh hb'.2
theorem JE (ca cb:List Sp)(hN1:ca.length<=900000)(hN2:cb.length<=900000):∀ (n:Nat) (a b:Tr) (va ka vb kb vca vcb:Value) (w:World),a.rd w w.heap.size va ka->b.rd w w.heap.size vb kb->SlP w w.heap.size 3 SpE vca ca->SlP w w.heap.size 3 SpE vcb cb->a.Ord->b.Ord->a.dep<=n->b.dep<=n->a.sz<=100000->b.sz<=100000 ->
  Calls Tryz.prog 111 #[.agg #[va,ka],.agg #[vb,kb],vca,vcb] w (RetTU w (joinT n ca cb a b)):=by
 intro n
 induction n with
 |zero=>intro a b _ _ _ _ _ _ w _ _ _ _ _ _ h _ _ _;have:=XA a;omega
 |succ n ih=>
 intro a b va ka vb kb vca vcb w ha hb hca hcb hoa hob hda hdb hza hzb
 have HA:=hid ha
 have HB:=hid hb
 have HCA:Hid (∀ w',Below w.heap.size w w'->SlP w' w'.heap.size 3 SpE vca ca):=fun w' hb=>hca.imp hb hb.size fun _ _ _ h=>h
 have HCB:Hid (∀ w',Below w.heap.size w w'->SlP w' w'.heap.size 3 SpE vcb cb):=fun w' hb=>hcb.imp hb hb.size fun _ _ _ h=>h
 have hea:=es_sz a
 have heb:=es_sz b
 have hel:=Ze ca cb _ a.es b.es (Nat.le_refl _)
 obtain⟨A1,n1,A2,n2,rfl,rfl⟩:=Qk ha
 obtain⟨A3,n3,A4,n4,rfl,rfl⟩:=Qk hb
 obtain⟨A5,n5,rfl,_⟩:=hca
 obtain⟨A6,n6,rfl,_⟩:=hcb
 have hb0:Below w.heap.size w (((w.alloc (.cells #[.slice A1 a.es.length n1,.slice A2 a.ks.length n2] 25)).alloc (.cells #[.slice A3 b.es.length n3,.slice A4 b.ks.length n4] 25)).alloc (.cells #[.slice none 0 0,.slice none 0 0] 25)):=(((Below.refl _ w).alloc (Nat.le_refl _) _).alloc (by simp) _).alloc (by simp;omega) _
 have HW:Hid (∀ w',Below (w.heap.size+3) (((w.alloc (.cells #[.slice A1 a.es.length n1,.slice A2 a.ks.length n2] 25)).alloc (.cells #[.slice A3 b.es.length n3,.slice A4 b.ks.length n4] 25)).alloc (.cells #[.slice none 0 0,.slice none 0 0] 25)) w'->Below w.heap.size w w'/\w.heap.size+3<=w'.heap.size/\w'.heap[w.heap.size]?=some (.cells #[.slice A1 a.es.length n1,.slice A2 a.ks.length n2] 25 (0,0))/\w'.heap[w.heap.size+1]?=some (.cells #[.slice A3 b.es.length n3,.slice A4 b.ks.length n4] 25 (0,0))/\w'.heap[w.heap.size+2]?=some (.cells #[.slice none 0 0,.slice none 0 0] 25 (0,0))):=fun w' hb=>
  ⟨hb0.trans (hb.mono (by omega)),by have:=hb.size;simpa using this,(hb.block _ (by omega)).trans ((Qh (by simp<;>omega)).trans ((Qh (by simp)).trans (Qf rfl))),(hb.block _ (by omega)).trans ((Qh (by simp)).trans (Qf (by simp))),(hb.block _ (by omega)).trans (Qf (by simp))⟩
 have HOA:=hid hoa
 have HOB:=hid hob
 clear ha hb hoa hob
 go_enter Tryz.func111,Tryz.ntmps111
 go_wp2_with fail
 refine (Yf a.es b.es ca cb _ _ _ _ _ ((J8 HA.out).imp hb0 hb0.size fun _ _ _ h=>h) ((J8 HB.out).imp hb0 hb0.size fun _ _ _ h=>h) (HCA.out _ hb0) (HCB.out _ hb0) (by omega) hN1 hN2).mono ?_
 rintro e w1 ⟨v1,rfl,ho1,hb1⟩
 obtain⟨Ae,ce,rfl⟩:=OwnP.shape ho1
 have HO1:=hid ho1
 have hJ:joinT (n+1) ca cb a b=.mk (entL ca cb a.es b.es) ((joinK a b).flatMap (joinF fun k=>joinT n ca cb (kidT a k) (kidT b k))):=rfl
 have HJ:=hid hJ
 generalize entL ca cb a.es b.es=E at *
 have hb1':=hid (hb1.mono (show w.heap.size+3<=_ by simp))
 obtain⟨hB1,hs1,g0,g1,g2⟩:=HW.out _ hb1'.out
 have a1:w1.cell? ⟨w.heap.size,1,none⟩=some (.slice A2 a.ks.length n2):=Qa (i:=1) g0
 have b1:w1.cell? ⟨w.heap.size+1,1,none⟩=some (.slice A4 b.ks.length n4):=Qa (i:=1) g1
 have hlt0:w.heap.size<w1.heap.size:=by omega
 have hlt1:w.heap.size+1<w1.heap.size:=by omega
 have hne0:w.heap.size≠w1.heap.size:=by omega
 have hne1:w.heap.size+1≠w1.heap.size:=by omega
 clear ho1 hJ g0 g1 g2 hb1
 have hb2:Below w.heap.size w ((w1.alloc (.cells #[.slice Ae E.length ce,.slice none 0 0] 25)).alloc (.cells #[.slice A2 a.ks.length n2,.slice A4 b.ks.length n4] 23)):=(hB1.alloc (by omega) _).alloc (by simp;omega) _
 go_wp2_with fail
 refine (Yz w w.heap.size a.ks b.ks _ _ (w1.heap.size+1) _ (by simp) (by simp) (by simp) ((ZP HA.out).imp hb2 hb2.size fun _ _ _ h=>h) ((ZP HB.out).imp hb2 hb2.size fun _ _ _ h=>h) (by omega) (by omega)).mono ?_
 rintro e w2 ⟨v2,rfl,ho2,hb3⟩
 have hs2:=hb3.size
 simp only[World.size_alloc]at hs2
 have hb12:Below (w1.heap.size+1) (w1.alloc (.cells #[.slice Ae E.length ce,.slice none 0 0] 25)) w2:=((Below.refl _ _).alloc (by simp) _).trans (hb3.mono (by simp))
 obtain⟨Ac,cc,rfl⟩:=OwnP.shape ho2
 have HSL:=hid (ho2.sl (by unfold Big;simp;omega))
 have HB12:=hid hb12
 clear ho2 hb3 hb12 a1 b1 hb2
 obtain⟨KS,hKS⟩:∃ KS,KS=a.ks++b.ks:=⟨_,rfl⟩
 have hKl:KS.length<=200000:=by rw[hKS,List.length_append];omega
 rw[←hKS]at HSL ⊢
 have HKS:=hid hKS
 clear hKS
 go_wp2_with fail
 go_loopw [10,31] (fun v i wr=>∃ k:Nat,k<=KS.length/\i=.int .i64 k/\OwnP wr w2.heap.size 9 1 StE v ((KS.take k).map (·.1))/\Below w2.heap.size w2 wr) (fun _ i _=>KS.length-(intOf i).toNat)
 case atStart=>exact⟨0,Nat.zero_le _,rfl,OwnP.nil,Below.refl _ _⟩
 case round=>
  obtain⟨k,hk,rfl,hown,hb⟩:=hrel
  have hsz:=hb.size
  by_cases hlt:k<KS.length
  ·obtain⟨⟨key,t⟩,hx⟩:∃ x,KS[k]?=some x:=⟨_,List.getElem?_eq_getElem hlt⟩
   obtain⟨A,m,hv,c1,c2,c3⟩:=HSL.out
   cases hv
   obtain⟨b,off,rfl,hbB,hc⟩:=c3 (by rintro rfl;simp at hlt)
   obtain⟨cs,⟨ve',vk',rfl,hkb,hrd⟩,_,hu⟩:=hc k _ hx
   obtain⟨A5,n5,A6,n6,rfl,rfl⟩:=Qk hrd
   have e0:wr.cell? ⟨b,off+k*3,none⟩=some (.string key):=(hb.cell hbB).trans (hu 0 _ rfl)
   have e1:wr.cell? ⟨b,off+k*3+1,none⟩=some (.slice A5 t.es.length n5):=(hb.cell hbB).trans (hu 1 _ rfl)
   have e2:wr.cell? ⟨b,off+k*3+2,none⟩=some (.slice A6 t.ks.length n6):=(hb.cell hbB).trans (hu 2 _ rfl)
   have HX:Hid ((KS.take (k+1)).map (·.1)=(KS.take k).map (·.1)++[key]):=by unfold Hid;rw[List.take_add_one,hx];simp
   have HL:Hid (((KS.take k).map (·.1)).length + [key].length<=Few):=by unfold Hid Few;simp;omega
   have HKY:Hid (StE key [.string key]):=⟨rfl,hkb⟩
   clear hu hc c3 hx hrd
   go_wp2_with (at_builtin;go_loud ((with_reducible refine Qj rfl (.tmp 35) (.tmp 38) _ rfl eiStr (by decide) (by decide) (fun _ _ h=>StE.one h) rfl ((hown.alloc _).alloc _) rfl (SlP.oneN (x:=key) HKY.out rfl _ rfl) HL.out (by simp only[World.size_alloc];omega) ?_);intro v1 w3 hown1 hb2 _;have hb3:=(((Below.refl w2.heap.size wr).alloc (by omega) _).alloc (by simp only[World.size_alloc];omega) _).trans hb2))
   go_roundw
   case rel=>exact⟨k+1,by omega,by go_num,by rw[HX.out];exact hown1,hb.trans hb3⟩
   case measure=>simp[intOf];omega
  ·obtain rfl:k=KS.length:=by omega
   rw[List.take_of_length_le (Nat.le_refl _)]at hown
   go_wp2_with fail
   refine (YA _ _ _ _ hown (by simp;omega) hsz).mono ?_
   rintro e w3 ⟨rfl,ho3,hb3⟩
   have hs3:w2.heap.size<=w3.heap.size:=Nat.le_trans hsz hb3.size
   go_wp2_with fail
   refine (Zv _ _ _ _ ho3 (by rw[Xx];simp;omega) hs3).mono ?_
   rintro e w4 ⟨v4,rfl,ho4,hb4⟩
   have hs4:w2.heap.size<=w4.heap.size:=Nat.le_trans hs3 hb4.size
   have hKK:cmpL (srtL (KS.map (·.1)))=joinK a b:=by unfold joinK;rw[HKS.out]
   rw[hKK]at ho4
   have hkl:=X2 a b
   have hB24:Below w2.heap.size w2 w4:=(hb.trans hb3).trans hb4
   have HKM:Hid (∀ x∈joinK a b,1<=n):=fun x hx=>X3 hda hdb hx
   clear hKK hown ho3 hb hb3 hb4 hsz hs3 hlt hk
   have hB14:Below (w1.heap.size+1) (w1.alloc (.cells #[.slice Ae E.length ce,.slice none 0 0] 25)) w4:=HB12.out.trans (hB24.mono (by omega))
   have HG4:Hid (w4.heap[w1.heap.size]?=some (.cells #[.slice Ae E.length ce,.slice none 0 0] 25 (0,0))):=(hB14.block _ (by omega)).trans (Qf rfl)
   have HB14:Hid (Below w1.heap.size w1 w4):=((Below.refl _ w1).alloc (Nat.le_refl _) _).trans (hB14.mono (by omega))
   have HSLA:=hid (ho4.sla (by unfold Big;omega))
   obtain⟨A9,c9,hv4⟩:=OwnP.shape ho4
   subst hv4
   clear ho4 hB14 hB24 wr
   have hJK:Hid ((joinK a b).flatMap (joinF fun k=>joinT n ca cb (kidT a k) (kidT b k))=(joinK a b).flatMap (joinF fun k=>joinT n ca cb (kidT a k) (kidT b k))):=rfl
   generalize hKKe:joinK a b=KK at *
   have HKKe:=hid hKKe
   clear hKKe
   generalize hFF:(fun k=>joinT n ca cb (kidT a k) (kidT b k))=F at *
   have HF:Hid (∀ k,F k=joinT n ca cb (kidT a k) (kidT b k)):=fun k=>by rw[←hFF]
   clear hFF hJK
   have hlt4:w1.heap.size<w4.heap.size:=by omega
   go_wp2_with fail
   go_loopw [46] (fun i wr=>∃ k:Nat,k<=KK.length/\i=.int .i64 k/\∃ Ak ck,wr.heap[w1.heap.size]?=some (.cells #[.slice Ae E.length ce,.slice Ak ((KK.take k).flatMap (joinF F)).length ck] 25 (0,0)) /\
     OwnD wr w4.heap.size 96 3 KdU (fun b=>w4.heap.size<=b) (.slice Ak ((KK.take k).flatMap (joinF F)).length ck) ((KK.take k).flatMap (joinF F))/\w4.heap.size<=wr.heap.size/\Below w1.heap.size w1 wr/\∀ b,w1.heap.size<b->b<w4.heap.size->wr.heap[b]?=w4.heap[b]?) (fun i _=>KK.length-(intOf i).toNat)
   case atStart=>exact⟨0,Nat.zero_le _,rfl,none,0,HG4.out,OwnP.nil,Nat.le_refl _,HB14.out,fun _ _ _=>rfl⟩
   case round=>
    obtain⟨k,hk,rfl,Ak,ck,hg,hown,hsz,hb,hkp⟩:=hrel
    have hB0:Below w.heap.size w wr:=hB1.trans (hb.mono (by omega))
    have hszk:=hown.lt
    by_cases hlt:k<KK.length
    ·obtain⟨key,hx⟩:∃ x,KK[k]?=some x:=⟨_,List.getElem?_eq_getElem hlt⟩
     obtain⟨A,m,hv,c1,c2,c3⟩:=HSLA.out
     cases hv
     obtain⟨b',off,rfl,hbB,hc⟩:=c3 (by rintro rfl;simp at hlt)
     obtain⟨cs,⟨rfl,hkb⟩,_,hu⟩:=hc k _ hx
     have e0:wr.cell? ⟨b',off+k,none⟩=some (.string key):=(by unfold World.cell?;rw[hkp b' (by have:=hbB.1;omega) hbB.2.1]:wr.cell? ⟨b',off+k,none⟩=w4.cell? ⟨b',off+k,none⟩).trans (by simpa using hu 0 _ rfl)
     have hn1:=HKM.out key (List.mem_of_getElem? hx)
     have HX:=hid (Xa hx F)
     have HJL:=Q9 F (KK.take k)
     rw[List.length_take]at HJL
     generalize (KK.take k).flatMap (joinF F)=js at *
     have HL:Hid (js.length + [(key,F key)].length<=Few):=by unfold Hid Few;simp;omega
     have HKB:=hid hkb
     have HC8:Hid (∀ W,Below wr.heap.size wr W->(W.cell? ⟨w.heap.size,0,none⟩=some (.slice A1 a.es.length n1)/\W.cell? ⟨w.heap.size,1,none⟩=some (.slice A2 a.ks.length n2)/\W.cell? ⟨w.heap.size+1,0,none⟩=some (.slice A3 b.es.length n3)/\W.cell? ⟨w.heap.size+1,1,none⟩=some (.slice A4 b.ks.length n4))/\Below w.heap.size w W):=fun W hW=>by
      obtain⟨q0,_,q1,q2,_⟩:=HW.out W (hb1'.out.trans ((hb.mono (by omega)).trans (hW.mono (by omega))))
      exact⟨⟨Qa (i:=0) q1,Qa (i:=1) q1,Qa (i:=0) q2,Qa (i:=1) q2⟩,q0⟩
     have HRA:Hid (∀ W,Below wr.heap.size wr W->a.rd W W.heap.size (.slice A1 a.es.length n1) (.slice A2 a.ks.length n2)):=fun W hW=>Qi (HC8.out W hW).2 (HC8.out W hW).2.size _ _ _ HA.out
     have HRB:Hid (∀ W,Below wr.heap.size wr W->b.rd W W.heap.size (.slice A3 b.es.length n3) (.slice A4 b.ks.length n4)):=fun W hW=>Qi (HC8.out W hW).2 (HC8.out W hW).2.size _ _ _ HB.out
     obtain⟨⟨q0,q1,q2,q3⟩,_⟩:=HC8.out wr (Below.refl _ _)
     have HIH:=hid (ih (kidT a key) (kidT b key))
     have HDA:=hid (Yq HOA.out hda hn1 key)
     have HDB:=hid (Yq HOB.out hdb hn1 key)
     have HZA:=hid (Nat.le_trans (Xw a key) hza)
     have HZB:=hid (Nat.le_trans (Xw b key) hzb)
     have hFk:=HF.out key
     have HFK:=hid hFk
     clear hu hc c3 hx hkb hn1 hFk ih
     go_upto_region 12 with (fail)
     go_region_held3 (fun w'=>w'.cell? ⟨w.heap.size,0,none⟩=some (.slice A1 a.es.length n1)/\w'.cell? ⟨w.heap.size,1,none⟩=some (.slice A2 a.ks.length n2)/\w'.cell? ⟨w.heap.size+1,0,none⟩=some (.slice A3 b.es.length n3)/\w'.cell? ⟨w.heap.size+1,1,none⟩=some (.slice A4 b.ks.length n4))
      (first|go_keep|exact (HC8.out _ hbk3.out).1|exact (HC8.out _ (hbk3.out.alloc hbk3.out.size _)).1|exact (HC8.out _ hbk2.out).1|exact (HC8.out _ (hbk2.out.alloc hbk2.out.size _)).1|exact (HC8.out _ hbk1.out).1|exact (HC8.out _ (hbk1.out.alloc hbk1.out.size _)).1|exact (HC8.out _ ((hbk3.out.setCell hge.out _).setCell hge.out _)).1)
      (first
          |(have hq:=hbk2;go_at_call 111;go_loud ((refine (HIH.out _ _ _ _ _ _ _ (by first|exact HQA2.out|exact Qi (QI (Below.refl _ _)) (by simp) _ _ _ HQA2.out) (by first|exact HQB.out|exact Qi (QI (Below.refl _ _)) (by simp) _ _ _ HQB.out) (HCA.out _ (HC8.out _ (by first|exact hbk2.out|exact hbk2.out.alloc hbk2.out.size _)).2) (HCB.out _ (HC8.out _ (by first|exact hbk2.out|exact hbk2.out.alloc hbk2.out.size _)).2) (Yn HOA.out key) (Yn HOB.out key) HDA.out HDB.out HZA.out HZB.out).mono ?_);rw[←HFK.out];rintro e w7 ⟨ve7,vk7,rfl,hrd7,hb⟩;obtain⟨Av,nv,Aw,nw,rfl,rfl⟩:=Ql hrd7;have HR7:=hid hrd7;have hb':Below w6.heap.size w6 w7:=(by first|exact hb|exact QI hb);have hbk3:Hid (Below wr.heap.size wr w7):=hbk2.out.trans (hb'.mono (by have:=hbk2.out.size;simpa using this));(try (have hnN:=hid (lt_of_block hbox.out);have hbox:=hid ((hb.block _ hnN.out).trans hbox.out)));(try (have hbox:Hid (w7.heap[w6.heap.size]?=some (.cells #[.slice none 0 0,.slice none 0 0] 25 (0,0))):=(hb.block _ (by simp;done)).trans (Qf rfl);have hnN:Hid (w6.heap.size<(w6.alloc (.cells #[.slice none 0 0,.slice none 0 0] 25)).heap.size):=(by unfold Hid;simp);have hge:=hid hs6));(try (have z0:=Qb (i:=0) hbox.out;have z1:=Qb (i:=1) hbox.out;have y0:=Qa (i:=0) hbox.out;have y1:=Qa (i:=1) hbox.out));clear hrd7 hb hb'))
          |(have hq:=hbk1;go_at_call 156;go_loud ((refine (Yo b key _ _ _ (HRB.out _ (by first|exact hbk1.out|exact hbk1.out.alloc hbk1.out.size _)) HOB.out).mono ?_);rintro e w6 ⟨ve6,vk6,rfl,hrd6,hb⟩;have hb':Below w5.heap.size w5 w6:=(by first|exact hb|exact QI hb);have HQB:=hid (Qi hb hb.size _ _ _ hrd6);have HQA2:=hid (Qi hb' hb'.size _ _ _ HQA.out);have hbk2:Hid (Below wr.heap.size wr w6):=hbk1.out.trans (hb'.mono (by have:=hbk1.out.size;simpa using this));have hs6:=hbk2.out.size;(try (have hbox:=hid ((hb.block _ (lt_of_block hbox.out)).trans hbox.out)));(try (have hbox:Hid (w6.heap[w5.heap.size]?=some (.cells #[.slice none 0 0,.slice none 0 0] 25 (0,0))):=(hb.block _ (by simp;done)).trans (Qf rfl);have hge:=hid hs5));clear hrd6 hb hb'))
          |(go_at_call 156;go_loud ((refine (Yo a key _ _ _ (HRA.out _ (by go_grown)) HOA.out).mono ?_);rintro e w5 ⟨ve5,vk5,rfl,hrd5,hb⟩;have HQA:=hid (Qi hb hb.size _ _ _ hrd5);have hbk1:Hid (Below wr.heap.size wr w5):=(Below.trans (by go_grown) (hb.mono (by simp)));have hs5:=hbk1.out.size;(try (have hbox:Hid (w5.heap[wr.heap.size]?=some (.cells #[.slice none 0 0,.slice none 0 0] 25 (0,0))):=(hb.block _ (by simp;done)).trans (Qf (by simp));have hge:=hid (Nat.le_refl wr.heap.size)));clear hrd5 hb)))
     all_goals (
      first
       |have hFIN:=hid (qQl hbox.out hge.out hbk3.out HR7.out hnN.out)
       |have hFIN:=hid (qQm (e:=25) hbk3.out HR7.out (by have:=hbk2.out.size;simp;omega))
      have hge4:=hbk3.out.size
      obtain⟨q4,q5,_,_⟩:=hFIN.out _ (Below.refl _ _)
      go_wp2_with fail
      refine (Qy _ _ _ _ _ _ _).mono ?_
      rintro e w8 ⟨rfl,hb8⟩
      obtain⟨q6,q7,hb9,hrd9⟩:=hFIN.out _ hb8
      have hs9:=hb9.size
      have hg8:=(hb9.block w1.heap.size (by omega)).trans hg
      have hkp8:∀ b,w1.heap.size<b->b<w4.heap.size->w8.heap[b]?=w4.heap[b]?:=fun b h1 h2=>(hb9.block b (by omega)).trans (hkp b h1 h2)
      have hown8:=hown.grow KdU.mon hb9
      clear q0 q1 q2 q3 q4 q5
      cases he:empB (F key).es.length (F key).ks.length
      ·have HX2:Hid ((KK.take (k+1)).flatMap (joinF F)=js++[(key,F key)]):=by
        unfold Hid;rw[HX.out];unfold joinF;rw[←Zr,he];rfl
       have c9:w8.cell? ⟨w1.heap.size,1,none⟩=some (.slice Ak js.length ck):=Qa (i:=1) hg8
       have hlt8:w1.heap.size<w8.heap.size:=by omega
       clear he
       go_wp2_with (at_builtin;go_loud ((with_reducible refine Yj (v:=.slice Ak js.length ck) rfl (.tmp 63) (.tmp 67) _ rfl KdU.mon eiKid (by decide) (by decide) rfl (hown8.grow KdU.mon ((Below.refl _ w8).alloc (Nat.le_refl _) (.cells #[.string key,.slice Av (F key).es.length nv,.slice Aw (F key).ks.length nw] 96))) rfl (Ys hrd9 HKB.out (fun b hb=>⟨hb.2,by have:=hb.1;omega,by rw[World.size_alloc];have:=hb.2;omega,fun e=>by have:=hszk b e;have:=hb.1;omega⟩) _ (by rw[World.size_alloc];omega)) HL.out (by rw[World.size_alloc];omega) ?_);intro v1 w9 hown9 hb10 _ _;have hsh9:∃ A c,v1=.slice A (js++[(key,F key)]).length c:=OwnP.shape hown9;obtain⟨A1',c1',hv1⟩:=hsh9;subst hv1;have hg9:=hid ((hb10.block _ hlt4).trans ((Qh hlt8).trans hg8));have hc9:w9.cell? ⟨w1.heap.size,1,none⟩=some (.slice Ak js.length ck):=Qa (i:=1) hg9.out;have hf9:=Qb (i:=1) hg9.out))
       have hb11:=((hb9.mono (show w4.heap.size<=_ from hsz)).alloc (show w4.heap.size<=w8.heap.size by omega) _).trans hb10
       have hs11:=hb11.size
       go_roundw
       case rel=>
        refine⟨k+1,by omega,by go_num,A1',c1',?_,?_,?_,?_,?_⟩
        ·rw[HX2.out];simpa using Qe (i:=1) hg9.out (.slice A1' (js.length+1) c1')
        ·rw[HX2.out];exact OwnD.setOther hown9 KdU.mon hlt4 (by simp;omega) _
        ·simp[World.setCell];omega
        ·exact (hb.trans (hb11.mono (by omega))).setCell (by simp) _
        ·intro b h1 h2
         exact (Below.heap_setCell _ _ _ _ (by simp;omega)).trans ((hb11.block b h2).trans (hkp b h1 h2))
       case measure=>simp[intOf];omega
      ·have HX2:Hid ((KK.take (k+1)).flatMap (joinF F)=js):=by
        unfold Hid;rw[HX.out];unfold joinF;rw[←Zr,he];simp
       clear he
       go_wp2_with fail
       go_roundw
       case rel=>exact⟨k+1,by omega,by go_num,Ak,ck,by rw[HX2.out];exact hg8,by rw[HX2.out];exact hown8,by omega,hb.trans (hb9.mono (by omega)),hkp8⟩
       case measure=>simp[intOf];omega)
    ·obtain rfl:k=KK.length:=by omega
     rw[List.take_of_length_le (Nat.le_refl _)]at hg hown hszk
     have hJe:joinT (n+1) ca cb a b=.mk E (KK.flatMap (joinF F)):=by
      rw[HJ.out,←HKKe.out]
     have hjl:=Q9 F KK
     generalize KK.flatMap (joinF F)=JS at *
     have c0:wr.cell? ⟨w1.heap.size,0,none⟩=some (.slice Ae E.length ce):=Qa (i:=0) hg
     have c1:wr.cell? ⟨w1.heap.size,1,none⟩=some (.slice Ak JS.length ck):=Qa (i:=1) hg
     have hg2:=(HW.out wr (hb1'.out.trans (hb.mono (by omega)))).2.2.2.2
     have d0:wr.cell? ⟨w.heap.size+2,0,none⟩=some (.slice none 0 0):=Qa (i:=0) hg2
     have d1:wr.cell? ⟨w.heap.size+2,1,none⟩=some (.slice none 0 0):=Qa (i:=1) hg2
     have z0:=Qb (i:=0) hg2
     have z1:=Qb (i:=1) hg2
     go_wp2_with fail
     have hW0:=Qe (i:=1) (Qe (i:=0) hg2 (.slice Ae E.length ce)) (.slice Ak JS.length ck)
     have hKW:∀ b,w.heap.size+3<=b->((wr.setCell ⟨w.heap.size+2,0,none⟩ (.slice Ae E.length ce)).setCell ⟨w.heap.size+2,1,none⟩ (.slice Ak JS.length ck)).heap[b]?=wr.heap[b]?:=fun b hb=>(Below.heap_setCell _ _ _ _ (by simp;omega)).trans (Below.heap_setCell _ _ _ _ (by simp;omega))
     have hSW:((wr.setCell ⟨w.heap.size+2,0,none⟩ (.slice Ae E.length ce)).setCell ⟨w.heap.size+2,1,none⟩ (.slice Ak JS.length ck)).heap.size=wr.heap.size:=by simp[World.setCell]
     have hBW:Below w.heap.size w ((wr.setCell ⟨w.heap.size+2,0,none⟩ (.slice Ae E.length ce)).setCell ⟨w.heap.size+2,1,none⟩ (.slice Ak JS.length ck)):=(hB0.setCell (by simp) _).setCell (by simp) _
     clear c0 c1 d0 d1 z0 z1
     generalize ((wr.setCell ⟨w.heap.size+2,0,none⟩ (.slice Ae E.length ce)).setCell ⟨w.heap.size+2,1,none⟩ (.slice Ak JS.length ck))=W at *
     have r0:W.cell? ⟨w.heap.size+2,0,none⟩=some (.slice Ae E.length ce):=(Qa (i:=0) hW0).trans (by simp)
     have r1:W.cell? ⟨w.heap.size+2,1,none⟩=some (.slice Ak JS.length ck):=(Qa (i:=1) hW0).trans (by simp)
     refine bodyPost_ret (v:=.agg #[.slice Ae E.length ce,.slice Ak JS.length ck]) (by simp[results,Tryz.results111,go_sem,r0,r1]) rfl ⟨_,_,rfl,?_,hBW⟩
     rw[hJe,XF]
     refine⟨(HO1.out.slu (by unfold Big;omega)).up (fun b hb'=>(hKW b (by have:=hb'.1;simp only[World.size_alloc]at this;omega)).trans (hb.block b hb'.2.1)) (fun b hb'=>⟨by have:=hb'.1;simp only[World.size_alloc]at this;omega,by have:=hb'.2.1;omega⟩) (fun _ _ _ h=>h),(OwnP.slu hown (by unfold Big;omega)).up (fun b hb'=>hKW b (by have:=hb'.1;omega)) (fun b hb'=>⟨by have:=hb'.1;omega,by have:=hb'.2.1;omega⟩) ?_⟩
     intro x _ cs hx
     exact KdU.mon.up (fun b hb'=>hKW b (by have:=hb'.1;omega)) (fun b hb'=>⟨by have:=hb'.1;omega,by have:=hb'.2.1;omega⟩) hx
theorem KJ (ca cb:List Sp)(n:Nat)(a b:Tr)(va ka vb kb vca vcb:Value)(w:World)(ha:a.rd w w.heap.size va ka)(hb:b.rd w w.heap.size vb kb)(hca:SlP w w.heap.size 3 SpE vca ca)(hcb:SlP w w.heap.size 3 SpE vcb cb)(hoa:a.Ord)(hob:b.Ord)(hda:a.dep<=n)(hdb:b.dep<=n)(hza:a.sz<=100000)(hzb:b.sz<=100000)(hra:Qm ca=true)(hrb:Qm cb=true)(hN1:ca.length<=20000)(hN2:cb.length<=20000) :
  Calls Tryz.prog 67 #[.agg #[va,ka,vca],.agg #[vb,kb,vcb]] w (RetCU w (joinT n ca cb a b) (ctxBy ca cb 0)):=by
 have HA:=hid ha
 have HB:=hid hb
 have HCA:Hid (∀ w',Below w.heap.size w w'->SlP w' w'.heap.size 3 SpE vca ca):=fun w' hb=>hca.imp hb hb.size fun _ _ _ h=>h
 have HCB:Hid (∀ w',Below w.heap.size w w'->SlP w' w'.heap.size 3 SpE vcb cb):=fun w' hb=>hcb.imp hb hb.size fun _ _ _ h=>h
 have HR1:=hid hra
 have HR2:=hid hrb
 have hul:=Q7 ca cb 0 4
 have HUL:Hid ((ctxBy ca cb 0).length<=Big):=by unfold Hid ctxBy Big;omega
 obtain⟨A1,n1,A2,n2,rfl,rfl⟩:=Qk ha
 obtain⟨A3,n3,A4,n4,rfl,rfl⟩:=Qk hb
 obtain⟨A5,n5,rfl,_⟩:=hca
 obtain⟨A6,n6,rfl,_⟩:=hcb
 have HX:Hid (∀ W,Below (w.heap.size+3) (((w.alloc (.cells #[.slice A1 a.es.length n1,.slice A2 a.ks.length n2,.slice A5 ca.length n5] 29)).alloc (.cells #[.slice A3 b.es.length n3,.slice A4 b.ks.length n4,.slice A6 cb.length n6] 29)).alloc (.cells #[.slice none 0 0,.slice none 0 0,.slice none 0 0] 29)) W->Below w.heap.size w W/\W.heap[w.heap.size+2]?=some (.cells #[.slice none 0 0,.slice none 0 0,.slice none 0 0] 29 (0,0))/\w.heap.size+3<=W.heap.size/\(W.cell? ⟨w.heap.size,0,none⟩=some (.slice A1 a.es.length n1)/\W.cell? ⟨w.heap.size,1,none⟩=some (.slice A2 a.ks.length n2)/\W.cell? ⟨w.heap.size,2,none⟩=some (.slice A5 ca.length n5)/\W.cell? ⟨w.heap.size+1,0,none⟩=some (.slice A3 b.es.length n3)/\W.cell? ⟨w.heap.size+1,1,none⟩=some (.slice A4 b.ks.length n4)/\W.cell? ⟨w.heap.size+1,2,none⟩=some (.slice A6 cb.length n6))):=fun W hW=>by
  have g0:W.heap[w.heap.size]?=some (.cells #[.slice A1 a.es.length n1,.slice A2 a.ks.length n2,.slice A5 ca.length n5] 29 (0,0)):=(hW.block _ (by omega)).trans ((Qh (by simp<;>omega)).trans ((Qh (by simp)).trans (Qf rfl)))
  have g1:W.heap[w.heap.size+1]?=some (.cells #[.slice A3 b.es.length n3,.slice A4 b.ks.length n4,.slice A6 cb.length n6] 29 (0,0)):=(hW.block _ (by omega)).trans ((Qh (by simp)).trans (Qf (by simp)))
  have g2:W.heap[w.heap.size+2]?=some (.cells #[.slice none 0 0,.slice none 0 0,.slice none 0 0] 29 (0,0)):=(hW.block _ (by omega)).trans (Qf (by simp))
  exact⟨((((Below.refl _ w).alloc (Nat.le_refl _) _).alloc (by simp) _).alloc (by simp;omega) _).trans (hW.mono (by omega)),g2,by have:=hW.size;simpa using this,Qa (i:=0) g0,Qa (i:=1) g0,Qa (i:=2) g0,Qa (i:=0) g1,Qa (i:=1) g1,Qa (i:=2) g1⟩
 have hneA:w.heap.size+1+1≠w.heap.size:=by omega
 have hneB:w.heap.size≠w.heap.size+1+1:=by omega
 clear ha hb
 go_enter Tryz.func67,Tryz.ntmps67
 go_upto_region 1 with (fail)
 go_region_held3 (fun w'=>w'.cell? ⟨w.heap.size,0,none⟩=some (.slice A1 a.es.length n1)/\w'.cell? ⟨w.heap.size,1,none⟩=some (.slice A2 a.ks.length n2)/\w'.cell? ⟨w.heap.size,2,none⟩=some (.slice A5 ca.length n5)/\w'.cell? ⟨w.heap.size+1,0,none⟩=some (.slice A3 b.es.length n3)/\w'.cell? ⟨w.heap.size+1,1,none⟩=some (.slice A4 b.ks.length n4)/\w'.cell? ⟨w.heap.size+1,2,none⟩=some (.slice A6 cb.length n6))
  (first|go_keep|exact (HX.out _ hbk2.out).2.2.2|exact (HX.out _ hbk1.out).2.2.2)
  (first
      |(go_at_call 111;go_loud ((refine (JE ca cb (by omega) (by omega) n a b _ _ _ _ _ _ _ (Qi (HX.out _ (by go_grown)).1 (HX.out _ (by go_grown)).1.size _ _ _ HA.out) (Qi (HX.out _ (by go_grown)).1 (HX.out _ (by go_grown)).1.size _ _ _ HB.out) (HCA.out _ (HX.out _ (by go_grown)).1) (HCB.out _ (HX.out _ (by go_grown)).1) hoa hob hda hdb hza hzb).mono ?_);rintro e w1 ⟨ve1,vk1,rfl,hrd1,hb⟩;obtain⟨Av,nv,Aw,nw,rfl,rfl⟩:=Ql hrd1;have HR:=hid hrd1;have hbk1:Hid (Below (w.heap.size+3) (((w.alloc (.cells #[.slice A1 a.es.length n1,.slice A2 a.ks.length n2,.slice A5 ca.length n5] 29)).alloc (.cells #[.slice A3 b.es.length n3,.slice A4 b.ks.length n4,.slice A6 cb.length n6] 29)).alloc (.cells #[.slice none 0 0,.slice none 0 0,.slice none 0 0] 29)) w1):=(Below.trans (by go_grown) (hb.mono (by simp)));clear hrd1 hb))
      |(go_at_call 112;go_loud ((refine (Xc ca cb _ _ w1 (HCA.out _ (HX.out _ hbk1.out).1) (HCB.out _ (HX.out _ hbk1.out).1) HR1.out HR2.out hN1 hN2).mono ?_);rintro e w2 ⟨v2,rfl,ho2,hb2⟩;obtain⟨A7,c7,hv7⟩:=ho2.shape;subst hv7;have HO2:=hid ho2;have hbk2:=hid (hbk1.out.trans (hb2.mono (HX.out _ hbk1.out).2.2.1));have HG2:=hid (HX.out _ hbk2.out).2.1;have k0:w2.cell? ⟨w.heap.size+2,0,none⟩=some (.slice none 0 0):=Qa (i:=0) HG2.out;have k1:w2.cell? ⟨w.heap.size+2,1,none⟩=some (.slice none 0 0):=Qa (i:=1) HG2.out;have k2:w2.cell? ⟨w.heap.size+2,2,none⟩=some (.slice none 0 0):=Qa (i:=2) HG2.out;have z0:=Qb (i:=0) HG2.out;have z1:=Qb (i:=1) HG2.out;have z2:=Qb (i:=2) HG2.out;have HB2:=hid hb2;clear ho2 hb2)))
 all_goals (
  go_wp2_with fail
  have hs2:w.heap.size+3<=w2.heap.size:=(HX.out _ hbk2.out).2.2.1
  have hs1:w.heap.size+3<=w1.heap.size:=(HX.out _ hbk1.out).2.2.1
  have hs12:=HB2.out.size
  obtain⟨r0,r1,r2,hK,hS⟩:=box3 HG2.out (.slice Av (joinT n ca cb a b).es.length nv) (.slice Aw (joinT n ca cb a b).ks.length nw) (.slice A7 (ctxBy ca cb 0).length c7)
  have hBW:Below w.heap.size w (((w2.setCell ⟨w.heap.size+2,0,none⟩ (.slice Av (joinT n ca cb a b).es.length nv)).setCell ⟨w.heap.size+2,1,none⟩ (.slice Aw (joinT n ca cb a b).ks.length nw)).setCell ⟨w.heap.size+2,2,none⟩ (.slice A7 (ctxBy ca cb 0).length c7)):=(((HX.out _ hbk2.out).1.setCell (by simp) _).setCell (by simp) _).setCell (by simp) _
  clear k0 k1 k2 z0 z1 z2
  generalize (((w2.setCell ⟨w.heap.size+2,0,none⟩ (.slice Av (joinT n ca cb a b).es.length nv)).setCell ⟨w.heap.size+2,1,none⟩ (.slice Aw (joinT n ca cb a b).ks.length nw)).setCell ⟨w.heap.size+2,2,none⟩ (.slice A7 (ctxBy ca cb 0).length c7))=W at *
  refine bodyPost_ret (v:=.agg #[.slice Av (joinT n ca cb a b).es.length nv,.slice Aw (joinT n ca cb a b).ks.length nw,.slice A7 (ctxBy ca cb 0).length c7]) (by simp[results,Tryz.results67,go_sem,r0,r1,r2]) rfl ⟨_,_,_,rfl,?_,?_,hBW⟩
  ·exact Qu (fun b hb=>(hK b (by have:=hb.1;simp only[World.size_alloc,World.size_drew]at this;omega)).trans (HB2.out.block b hb.2)) (fun b hb=>⟨by have:=hb.1;simp only[World.size_alloc,World.size_drew]at this;omega,by have:=hb.2;omega⟩) _ _ _ HR.out
  ·exact (HO2.out.slu HUL.out).up (fun b hb=>hK b (by have:=hb.1;omega)) (fun b hb=>⟨by have:=hb.1;omega,by have:=hb.2.1;omega⟩) (fun _ _ _ h=>h))
theorem KL (ca cb:List Sp)(a b:Tr)(va ka vb kb vca vcb:Value)(w:World)(ha:a.rd w w.heap.size va ka)(hb:b.rd w w.heap.size vb kb)(hca:SlP w w.heap.size 3 SpE vca ca)(hcb:SlP w w.heap.size 3 SpE vcb cb)(hza:a.sz<=4000)(hzb:b.sz<=4000)(hN1:ca.length<=20000)(hN2:cb.length<=20000) :
  Calls Tryz.prog 33 #[.agg #[va,ka,vca],.agg #[vb,kb,vcb]] w (qQ5 w (jnT a b ca cb) (jnC a b ca cb) (jnE a b ca cb)):=by
 have HA:=hid ha
 have HB:=hid hb
 have HCA:Hid (∀ w',Below w.heap.size w w'->SlP w' w'.heap.size 3 SpE vca ca):=fun w' hb=>hca.imp hb hb.size fun _ _ _ h=>h
 have HCB:Hid (∀ w',Below w.heap.size w w'->SlP w' w'.heap.size 3 SpE vcb cb):=fun w' hb=>hcb.imp hb hb.size fun _ _ _ h=>h
 obtain⟨A1,n1,A2,n2,rfl,rfl⟩:=Qk ha
 obtain⟨A3,n3,A4,n4,rfl,rfl⟩:=Qk hb
 obtain⟨A5,n5,rfl,_⟩:=hca
 obtain⟨A6,n6,rfl,_⟩:=hcb
 have HX:Hid (∀ W,Below (w.heap.size+3) (((w.alloc (.cells #[.slice A1 a.es.length n1,.slice A2 a.ks.length n2,.slice A5 ca.length n5] 29)).alloc (.cells #[.slice A3 b.es.length n3,.slice A4 b.ks.length n4,.slice A6 cb.length n6] 29)).alloc (.cells #[.slice none 0 0,.slice none 0 0,.slice none 0 0] 29)) W->Below w.heap.size w W/\W.heap[w.heap.size+2]?=some (.cells #[.slice none 0 0,.slice none 0 0,.slice none 0 0] 29 (0,0))/\w.heap.size+3<=W.heap.size/\(W.cell? ⟨w.heap.size,0,none⟩=some (.slice A1 a.es.length n1)/\W.cell? ⟨w.heap.size,1,none⟩=some (.slice A2 a.ks.length n2)/\W.cell? ⟨w.heap.size,2,none⟩=some (.slice A5 ca.length n5)/\W.cell? ⟨w.heap.size+1,0,none⟩=some (.slice A3 b.es.length n3)/\W.cell? ⟨w.heap.size+1,1,none⟩=some (.slice A4 b.ks.length n4)/\W.cell? ⟨w.heap.size+1,2,none⟩=some (.slice A6 cb.length n6))):=fun W hW=>by
  have g0:W.heap[w.heap.size]?=some (.cells #[.slice A1 a.es.length n1,.slice A2 a.ks.length n2,.slice A5 ca.length n5] 29 (0,0)):=(hW.block _ (by omega)).trans ((Qh (by simp<;>omega)).trans ((Qh (by simp)).trans (Qf rfl)))
  have g1:W.heap[w.heap.size+1]?=some (.cells #[.slice A3 b.es.length n3,.slice A4 b.ks.length n4,.slice A6 cb.length n6] 29 (0,0)):=(hW.block _ (by omega)).trans ((Qh (by simp)).trans (Qf (by simp)))
  have g2:W.heap[w.heap.size+2]?=some (.cells #[.slice none 0 0,.slice none 0 0,.slice none 0 0] 29 (0,0)):=(hW.block _ (by omega)).trans (Qf (by simp))
  exact⟨((((Below.refl _ w).alloc (Nat.le_refl _) _).alloc (by simp) _).alloc (by simp;omega) _).trans (hW.mono (by omega)),g2,by have:=hW.size;simpa using this,Qa (i:=0) g0,Qa (i:=1) g0,Qa (i:=2) g0,Qa (i:=0) g1,Qa (i:=1) g1,Qa (i:=2) g1⟩
 clear ha hb
 go_enter Tryz.func33,Tryz.ntmps33
 cases hc1:caR a ca
 ·have HR1:=hid hc1
  have HR2:Hid (caR b cb=caR b cb):=rfl
  have HE:Hid (jnE a b ca cb=1):=by unfold Hid jnE;rw[hc1];rfl
  have HTT:Hid (jnT a b ca cb=.mk [] []):=by unfold Hid jnT;rw[hc1];rfl
  have HCC:Hid (jnC a b ca cb=[]):=by unfold Hid jnC;rw[hc1];rfl
  clear hc1
  have hB0:=(HX.out _ (Below.refl _ _)).1
  go_wp2_with fail
  refine (Qq a ca _ _ _ _ (Qi hB0 hB0.size _ _ _ HA.out) (HCA.out _ hB0) hza hN1).mono ?_
  rw[HR1.out]
  rintro e w1 ⟨rfl,hb1⟩
  have hbq1:=hid (hb1.mono (show w.heap.size+3<=_ by simp))
  clear hb1 hB0
  obtain⟨hB1,hG,hsq,q0,q1,q2,q3,q4,q5⟩:=HX.out w1 hbq1.out
  have HG:=hid hG
  have k0:(w1).cell? ⟨w.heap.size+2,0,none⟩=some (.slice none 0 0):=Qa (i:=0) HG.out
  have k1:(w1).cell? ⟨w.heap.size+2,1,none⟩=some (.slice none 0 0):=Qa (i:=1) HG.out
  have k2:(w1).cell? ⟨w.heap.size+2,2,none⟩=some (.slice none 0 0):=Qa (i:=2) HG.out
  have z0:=Qb (i:=0) HG.out
  have z1:=Qb (i:=1) HG.out
  have z2:=Qb (i:=2) HG.out
  clear hG
  go_wp2_with fail
  obtain⟨r0,r1,r2,hK,hS⟩:=box3 HG.out (.slice none 0 0) (.slice none 0 0) (.slice none 0 0)
  have hBW:=((hB1.setCell (p:=⟨w.heap.size+2,0,none⟩) (by simp) (.slice none 0 0)).setCell (p:=⟨w.heap.size+2,1,none⟩) (by simp) (.slice none 0 0)).setCell (p:=⟨w.heap.size+2,2,none⟩) (by simp) (.slice none 0 0)
  refine bodyPost_ret (v:=.tuple #[.agg #[.slice none 0 0,.slice none 0 0,.slice none 0 0],.int .i64 1]) (by simp[results,Tryz.results33,go_sem,r0,r1,r2]) rfl ⟨_,_,_,by rw[HE.out],?_,?_,hBW⟩
  ·rw[HTT.out];exact YQ _ _
  ·rw[HCC.out];exact SlU.nil
 cases hc2:caR b cb
 ·have HR1:=hid hc1
  have HR2:=hid hc2
  have HE:Hid (jnE a b ca cb=1):=by unfold Hid jnE;rw[hc1,hc2];rfl
  have HTT:Hid (jnT a b ca cb=.mk [] []):=by unfold Hid jnT;rw[hc1,hc2];rfl
  have HCC:Hid (jnC a b ca cb=[]):=by unfold Hid jnC;rw[hc1,hc2];rfl
  clear hc1 hc2
  have hB0:=(HX.out _ (Below.refl _ _)).1
  go_wp2_with fail
  refine (Qq a ca _ _ _ _ (Qi hB0 hB0.size _ _ _ HA.out) (HCA.out _ hB0) hza hN1).mono ?_
  rw[HR1.out]
  rintro e w1 ⟨rfl,hb1⟩
  have hbq1:=hid (hb1.mono (show w.heap.size+3<=_ by simp))
  clear hb1 hB0
  obtain⟨hB1,hG,hsq,q0,q1,q2,q3,q4,q5⟩:=HX.out w1 hbq1.out
  have HG:=hid hG
  have k0:(w1).cell? ⟨w.heap.size+2,0,none⟩=some (.slice none 0 0):=Qa (i:=0) HG.out
  have k1:(w1).cell? ⟨w.heap.size+2,1,none⟩=some (.slice none 0 0):=Qa (i:=1) HG.out
  have k2:(w1).cell? ⟨w.heap.size+2,2,none⟩=some (.slice none 0 0):=Qa (i:=2) HG.out
  have z0:=Qb (i:=0) HG.out
  have z1:=Qb (i:=1) HG.out
  have z2:=Qb (i:=2) HG.out
  clear hG
  go_wp2_with fail
  refine (Qq b cb _ _ _ w1 (Qi hB1 hB1.size _ _ _ HB.out) (HCB.out _ hB1) hzb hN2).mono ?_
  rw[HR2.out]
  rintro e w2 ⟨rfl,hb2⟩
  have hbq2:=hid (hbq1.out.trans (hb2.mono hsq))
  clear hb2 hB1 k0 k1 k2 z0 z1 z2 q0 q1 q2 q3 q4 q5 hsq HG
  obtain⟨hB1,hG,hsq,q0,q1,q2,q3,q4,q5⟩:=HX.out w2 hbq2.out
  have HG:=hid hG
  have k0:(w2).cell? ⟨w.heap.size+2,0,none⟩=some (.slice none 0 0):=Qa (i:=0) HG.out
  have k1:(w2).cell? ⟨w.heap.size+2,1,none⟩=some (.slice none 0 0):=Qa (i:=1) HG.out
  have k2:(w2).cell? ⟨w.heap.size+2,2,none⟩=some (.slice none 0 0):=Qa (i:=2) HG.out
  have z0:=Qb (i:=0) HG.out
  have z1:=Qb (i:=1) HG.out
  have z2:=Qb (i:=2) HG.out
  clear hG
  go_wp2_with fail
  obtain⟨r0,r1,r2,hK,hS⟩:=box3 HG.out (.slice none 0 0) (.slice none 0 0) (.slice none 0 0)
  have hBW:=((hB1.setCell (p:=⟨w.heap.size+2,0,none⟩) (by simp) (.slice none 0 0)).setCell (p:=⟨w.heap.size+2,1,none⟩) (by simp) (.slice none 0 0)).setCell (p:=⟨w.heap.size+2,2,none⟩) (by simp) (.slice none 0 0)
  refine bodyPost_ret (v:=.tuple #[.agg #[.slice none 0 0,.slice none 0 0,.slice none 0 0],.int .i64 1]) (by simp[results,Tryz.results33,go_sem,r0,r1,r2]) rfl ⟨_,_,_,by rw[HE.out],?_,?_,hBW⟩
  ·rw[HTT.out];exact YQ _ _
  ·rw[HCC.out];exact SlU.nil
 ·have HR1:=hid hc1
  have HR2:=hid hc2
  have HE:Hid (jnE a b ca cb=0):=by unfold Hid jnE;rw[hc1,hc2];rfl
  have HTT:Hid (jnT a b ca cb=joinT 6 ca cb a b):=by unfold Hid jnT;rw[hc1,hc2];rfl
  have HCC:Hid (jnC a b ca cb=ctxBy ca cb 0):=by unfold Hid jnC;rw[hc1,hc2];rfl
  have HOA:=hid (XC hc1)
  have HOB:=hid (XC hc2)
  have HDA:=hid (YN hc1)
  have HDB:=hid (YN hc2)
  have HPA:=hid (ZX hc1)
  have HPB:=hid (ZX hc2)
  clear hc1 hc2
  have hB0:=(HX.out _ (Below.refl _ _)).1
  go_wp2_with fail
  refine (Qq a ca _ _ _ _ (Qi hB0 hB0.size _ _ _ HA.out) (HCA.out _ hB0) hza hN1).mono ?_
  rw[HR1.out]
  rintro e w1 ⟨rfl,hb1⟩
  have hbq1:=hid (hb1.mono (show w.heap.size+3<=_ by simp))
  clear hb1 hB0
  obtain⟨hB1,hG,hsq,q0,q1,q2,q3,q4,q5⟩:=HX.out w1 hbq1.out
  have HG:=hid hG
  have k0:(w1).cell? ⟨w.heap.size+2,0,none⟩=some (.slice none 0 0):=Qa (i:=0) HG.out
  have k1:(w1).cell? ⟨w.heap.size+2,1,none⟩=some (.slice none 0 0):=Qa (i:=1) HG.out
  have k2:(w1).cell? ⟨w.heap.size+2,2,none⟩=some (.slice none 0 0):=Qa (i:=2) HG.out
  have z0:=Qb (i:=0) HG.out
  have z1:=Qb (i:=1) HG.out
  have z2:=Qb (i:=2) HG.out
  clear hG
  go_wp2_with fail
  refine (Qq b cb _ _ _ w1 (Qi hB1 hB1.size _ _ _ HB.out) (HCB.out _ hB1) hzb hN2).mono ?_
  rw[HR2.out]
  rintro e w2 ⟨rfl,hb2⟩
  have hbq2:=hid (hbq1.out.trans (hb2.mono hsq))
  clear hb2 hB1 k0 k1 k2 z0 z1 z2 q0 q1 q2 q3 q4 q5 hsq HG
  obtain⟨hB1,hG,hsq,q0,q1,q2,q3,q4,q5⟩:=HX.out w2 hbq2.out
  have HG:=hid hG
  have k0:(w2).cell? ⟨w.heap.size+2,0,none⟩=some (.slice none 0 0):=Qa (i:=0) HG.out
  have k1:(w2).cell? ⟨w.heap.size+2,1,none⟩=some (.slice none 0 0):=Qa (i:=1) HG.out
  have k2:(w2).cell? ⟨w.heap.size+2,2,none⟩=some (.slice none 0 0):=Qa (i:=2) HG.out
  have z0:=Qb (i:=0) HG.out
  have z1:=Qb (i:=1) HG.out
  have z2:=Qb (i:=2) HG.out
  clear hG
  go_wp2_with fail
  refine (KJ ca cb 6 a b _ _ _ _ _ _ w2 (Qi hB1 hB1.size _ _ _ HA.out) (Qi hB1 hB1.size _ _ _ HB.out) (HCA.out _ hB1) (HCB.out _ hB1) HOA.out HOB.out HDA.out HDB.out (by omega) (by omega) HPA.out HPB.out hN1 hN2).mono ?_
  rintro e w5 ⟨ve,vk,vc,rfl,hrd5,hsl5,hb5⟩
  obtain⟨A7,n7,A8,n8,rfl,rfl⟩:=Ql hrd5
  have HS5:=hid hsl5
  obtain⟨A9,n9,hv9,_⟩:=hsl5
  subst hv9
  have HR5:=hid hrd5
  have hs25:=hb5.size
  have hs2:=hsq
  have hbq5:=hid (hbq2.out.trans (hb5.mono hsq))
  clear hrd5 hb5 hB1 k0 k1 k2 z0 z1 z2 q0 q1 q2 q3 q4 q5 hsq HG
  obtain⟨hB1,hG,hsq,q0,q1,q2,q3,q4,q5⟩:=HX.out w5 hbq5.out
  have HG:=hid hG
  have k0:(w5).cell? ⟨w.heap.size+2,0,none⟩=some (.slice none 0 0):=Qa (i:=0) HG.out
  have k1:(w5).cell? ⟨w.heap.size+2,1,none⟩=some (.slice none 0 0):=Qa (i:=1) HG.out
  have k2:(w5).cell? ⟨w.heap.size+2,2,none⟩=some (.slice none 0 0):=Qa (i:=2) HG.out
  have z0:=Qb (i:=0) HG.out
  have z1:=Qb (i:=1) HG.out
  have z2:=Qb (i:=2) HG.out
  clear hG
  go_wp2_with fail
  obtain⟨r0,r1,r2,hK,hS⟩:=box3 HG.out (.slice A7 (joinT 6 ca cb a b).es.length n7) (.slice A8 (joinT 6 ca cb a b).ks.length n8) (.slice A9 (ctxBy ca cb 0).length n9)
  have hBW:Below w.heap.size w (((w5.setCell ⟨w.heap.size+2,0,none⟩ (.slice A7 (joinT 6 ca cb a b).es.length n7)).setCell ⟨w.heap.size+2,1,none⟩ (.slice A8 (joinT 6 ca cb a b).ks.length n8)).setCell ⟨w.heap.size+2,2,none⟩ (.slice A9 (ctxBy ca cb 0).length n9)):=((hB1.setCell (by simp) _).setCell (by simp) _).setCell (by simp) _
  clear k0 k1 k2 z0 z1 z2
  generalize (((w5.setCell ⟨w.heap.size+2,0,none⟩ (.slice A7 (joinT 6 ca cb a b).es.length n7)).setCell ⟨w.heap.size+2,1,none⟩ (.slice A8 (joinT 6 ca cb a b).ks.length n8)).setCell ⟨w.heap.size+2,2,none⟩ (.slice A9 (ctxBy ca cb 0).length n9))=W at *
  refine bodyPost_ret (v:=.tuple #[.agg #[.slice A7 (joinT 6 ca cb a b).es.length n7,.slice A8 (joinT 6 ca cb a b).ks.length n8,.slice A9 (ctxBy ca cb 0).length n9],.int .i64 0]) (by simp[results,Tryz.results33,go_sem,r0,r1,r2]) rfl ⟨_,_,_,by rw[HE.out],?_,?_,hBW⟩
  ·rw[HTT.out]
   exact Qu (fun b hb=>hK b (by have:=hb.1;omega)) (fun b hb=>⟨by have:=hb.1;omega,by have:=hb.2;omega⟩) _ _ _ HR5.out
  ·rw[HCC.out]
   exact HS5.out.up (fun b hb=>hK b (by have:=hb.1;omega)) (fun b hb=>⟨by have:=hb.1;omega,by have:=hb.2;omega⟩) (fun _ _ _ h=>h)
theorem Yg (ca cb:List Sp)(a b:Tr)(va ka vb kb vca vcb:Value)(w:World)(ha:a.rd w w.heap.size va ka)(hb:b.rd w w.heap.size vb kb)(hca:SlP w w.heap.size 3 SpE vca ca)(hcb:SlP w w.heap.size 3 SpE vcb cb)(hza:a.sz<=4000)(hzb:b.sz<=4000)(hN1:ca.length<=20000)(hN2:cb.length<=20000) :
  Calls Tryz.prog 16 #[.agg #[va,ka,vca],.agg #[vb,kb,vcb]] w (RetCU w (jnT a b ca cb) (jnC a b ca cb)):=by
 have HA:=hid ha
 have HB:=hid hb
 have HCA:=hid hca
 have HCB:=hid hcb
 obtain⟨A1,n1,A2,n2,rfl,rfl⟩:=Qk ha
 obtain⟨A3,n3,A4,n4,rfl,rfl⟩:=Qk hb
 obtain⟨A5,n5,rfl,_⟩:=hca
 obtain⟨A6,n6,rfl,_⟩:=hcb
 have hB0:Below w.heap.size w (((w.alloc (.cells #[.slice A1 a.es.length n1,.slice A2 a.ks.length n2,.slice A5 ca.length n5] 29)).alloc (.cells #[.slice A3 b.es.length n3,.slice A4 b.ks.length n4,.slice A6 cb.length n6] 29)).alloc (.cells #[.slice none 0 0,.slice none 0 0,.slice none 0 0] 29)):=(((Below.refl _ w).alloc (Nat.le_refl _) _).alloc (by simp) _).alloc (by simp;omega) _
 clear ha hb
 go_enter Tryz.func16,Tryz.ntmps16
 go_wp2_with fail
 refine (KL ca cb a b _ _ _ _ _ _ _ (Qi hB0 hB0.size _ _ _ HA.out) (Qi hB0 hB0.size _ _ _ HB.out) (HCA.out.imp hB0 hB0.size fun _ _ _ h=>h) (HCB.out.imp hB0 hB0.size fun _ _ _ h=>h) hza hzb hN1 hN2).mono ?_
 rintro e w1 ⟨ve,vk,vc,rfl,hrd,hsl,hb⟩
 generalize jnT a b ca cb=T at *
 generalize jnC a b ca cb=C at *
 generalize jnE a b ca cb=k at *
 obtain⟨Av,nv,Aw,nw,rfl,rfl⟩:=Ql hrd
 obtain⟨Ac,nc,rfl⟩:=hsl.shape
 have hsz:=hb.size
 simp only[World.size_alloc]at hsz hb hrd hsl
 have hG:w1.heap[w.heap.size+2]?=some (.cells #[.slice none 0 0,.slice none 0 0,.slice none 0 0] 29 (0,0)):=(hb.block _ (by omega)).trans (Qf (by simp))
 have HG:Hid (w1.heap[w.heap.size+1+1]?=some (.cells #[.slice none 0 0,.slice none 0 0,.slice none 0 0] 29 (0,0))):=hG
 have HBW:=hid (hB0.trans (hb.mono (by omega)))
 have HR1:=hid hrd
 have HS1:=hid hsl
 obtain⟨k0,k1,k2,z0,z1,z2⟩:=bz3 hG
 have hl0:w.heap.size+2<w1.heap.size:=by omega
 have hl0':w.heap.size+2≠w1.heap.size:=by omega
 have hl1:w.heap.size+1+1<w1.heap.size:=by omega
 have hl1':w.heap.size+1+1≠w1.heap.size:=by omega
 clear hrd hsl hb hG hB0
 go_wp2_with fail
 obtain⟨r0,r1,r2,hK,hS,_⟩:=box3a HG.out (.slice Av T.es.length nv) (.slice Aw T.ks.length nw) (.slice Ac C.length nc) (.cells #[.slice Av T.es.length nv,.slice Aw T.ks.length nw,.slice Ac C.length nc] 29)
 have hBW:=KI (g:=w.heap.size+1+1) HBW.out (by omega) (by omega) (.slice Av T.es.length nv) (.slice Aw T.ks.length nw) (.slice Ac C.length nc) (.cells #[.slice Av T.es.length nv,.slice Aw T.ks.length nw,.slice Ac C.length nc] 29)
 refine bodyPost_ret (v:=.agg #[.slice Av T.es.length nv,.slice Aw T.ks.length nw,.slice Ac C.length nc]) (by simp[results,Tryz.results16,go_sem,r0,r1,r2]) rfl ⟨_,_,_,rfl,?_,?_,hBW⟩
 ·exact Qu (fun b hb=>hK b (by omega) hb.2) (fun b hb=>⟨by omega,by rw[hS];omega⟩) _ _ _ HR1.out
 ·exact HS1.out.up (fun b hb=>hK b (by omega) hb.2) (fun b hb=>⟨by omega,by rw[hS];omega⟩) (fun _ _ _ h=>h)
def T9:Tr:=.mk [⟨1,1,ByteArray.empty,0⟩] []
def C9:List Sp:=[⟨1,1,1⟩]
theorem Kg:(caR T9 C9&&caR (.mk [] []) [])=true:=by kernel_rfl
theorem jn9_T:jnT T9 (.mk [] []) C9 []=T9:=by
 unfold jnT;rw[Kg,if_pos rfl,joinT]
 have h1:entL C9 [] T9.es (Tr.mk [] []).es=T9.es:=by
  show entL C9 [] [⟨1,1,ByteArray.empty,0⟩] []=_
  rw[entL,entL];rfl
 have h2:joinK T9 (.mk [] [])=[]:=by simp[joinK,T9,Tr.ks,srtL,cmpL,Lib.compact,Lib.compactUpTo]
 rw[h1,h2];rfl
theorem jn9_C:jnC T9 (.mk [] []) C9 []=C9:=by
 unfold jnC;rw[Kg,if_pos rfl];kernel_rfl
theorem ZF (w:World):Calls Tryz.prog 8 #[] w fun e w'=>e=.returned (.bool true)/\Below w.heap.size w w':=by
 have HX:Hid (∀ W,Below (w.heap.size+4) ((((w.alloc (.cells #[.int .i64 1,.int .i64 1] 78)).alloc (.cells #[.int .i64 1,.int .i64 1,.string ByteArray.empty,.int .i64 0] 80)).alloc (.cells #[.int .i64 1,.int .i64 1,.int .i64 1] 45)).alloc (.cells #[.slice (some ⟨w.heap.size+1,0,none⟩) 1 1,.slice none 0 0,.slice (some ⟨w.heap.size+1+1,0,none⟩) 1 1] 29)) W->Below w.heap.size w W/\T9.rd W W.heap.size (.slice (some ⟨w.heap.size+1,0,none⟩) 1 1) (.slice none 0 0)/\SlP W W.heap.size 3 SpE (.slice (some ⟨w.heap.size+1+1,0,none⟩) 1 1) C9/\w.heap.size+4<=W.heap.size/\(W.cell? ⟨w.heap.size+3,0,none⟩=some (.slice (some ⟨w.heap.size+1,0,none⟩) 1 1)/\W.cell? ⟨w.heap.size+3,1,none⟩=some (.slice none 0 0)/\W.cell? ⟨w.heap.size+3,2,none⟩=some (.slice (some ⟨w.heap.size+1+1,0,none⟩) 1 1))):=fun W hW=>by
  have hs:w.heap.size+4<=W.heap.size:=by have:=hW.size;simpa using this
  have g1:W.heap[w.heap.size+1]?=some (.cells #[.int .i64 1,.int .i64 1,.string ByteArray.empty,.int .i64 0] 80 (0,0)):=(hW.block _ (by omega)).trans ((Qh (by simp<;>omega)).trans ((Qh (by simp)).trans (Qf (by simp))))
  have g2:W.heap[w.heap.size+1+1]?=some (.cells #[.int .i64 1,.int .i64 1,.int .i64 1] 45 (0,0)):=(hW.block _ (by omega)).trans ((Qh (by simp)).trans (Qf (by simp)))
  have g3:W.heap[w.heap.size+3]?=some (.cells #[.slice (some ⟨w.heap.size+1,0,none⟩) 1 1,.slice none 0 0,.slice (some ⟨w.heap.size+1+1,0,none⟩) 1 1] 29 (0,0)):=(hW.block _ (by omega)).trans (Qf (by simp))
  refine⟨(((((Below.refl _ w).alloc (Nat.le_refl _) _).alloc (by simp) _).alloc (by simp;omega) _).alloc (by simp;omega) _).trans (hW.mono (by omega)),?_,?_,hs,Qa (i:=0) g3,Qa (i:=1) g3,Qa (i:=2) g3⟩
  ·exact QB.2 ⟨SlA.one (x:=(⟨1,1,ByteArray.empty,0⟩:En)) (cs:=[.int .i64 1,.int .i64 1,.string ByteArray.empty,.int .i64 0]) ⟨rfl,⟨by decide,by decide⟩,⟨by decide,by decide⟩,⟨by decide,by decide⟩,by decide⟩ rfl g1 (by omega),SlP.nil⟩
  ·exact SlA.one (x:=(⟨1,1,1⟩:Sp)) (cs:=[.int .i64 1,.int .i64 1,.int .i64 1]) ⟨rfl,⟨by decide,by decide⟩,⟨by decide,by decide⟩,⟨by decide,by decide⟩⟩ rfl g2 (by omega)
 have hE:jnE T9 (.mk [] []) C9 []=0:=by unfold jnE;rw[Kg];rfl
 have hT:jnT T9 (.mk [] []) C9 []=T9:=jn9_T
 have hC:jnC T9 (.mk [] []) C9 []=C9:=jn9_C
 have HR:Hid (caR T9 C9=true):=by have:=Kg;rw[Bool.and_eq_true]at this;exact this.1
 have HZ:Hid (T9.sz<=4000/\C9.length<=20000):=by unfold Hid;decide
 go_enter Tryz.func8,Tryz.ntmps8
 go_wp2_with fail
 have h1:=HX.out _ (Below.refl _ _)
 refine (VB C9 [] T9 (.mk [] []) _ _ _ _ _ _ ((((w.alloc (.cells #[.int .i64 1,.int .i64 1] 78)).alloc (.cells #[.int .i64 1,.int .i64 1,.string ByteArray.empty,.int .i64 0] 80)).alloc (.cells #[.int .i64 1,.int .i64 1,.int .i64 1] 45)).alloc (.cells #[.slice (some ⟨w.heap.size+1,0,none⟩) 1 1,.slice none 0 0,.slice (some ⟨w.heap.size+1+1,0,none⟩) 1 1] 29)) h1.2.1 Xi h1.2.2.1 SlP.nil HZ.out.1 (by decide) HZ.out.2 (by decide)).mono ?_
 rw[hE,hT,hC]
 rintro e w1 ⟨ve,vk,vc,rfl,hrd,hsc,hb1⟩
 clear h1 hE hT hC
 generalize T9=T at *
 generalize C9=C at *
 obtain⟨Ae,ne,Ak,nk,rfl,rfl⟩:=Q5 hrd
 obtain⟨Ac,nc,rfl⟩:=hsc.shape
 have hbk1:=hid (hb1.mono (show w.heap.size+4<=_ by simp))
 have HT:Hid (∀ w',Below w1.heap.size w1 w'->T.rd w' w'.heap.size (.slice Ae T.es.length ne) (.slice Ak T.ks.length nk)):=fun w' hb=>XL hrd (fun b hb=>hb.2) hb
 have HCt:Hid (∀ w',Below w1.heap.size w1 w'->SlP w' w'.heap.size 3 SpE (.slice Ac C.length nc) C):=fun w' hb=>hsc.slp (fun b hb=>hb.2) hb
 obtain⟨hB1,hr1,hc1,hs1,q0,q1,q2⟩:=HX.out w1 hbk1.out
 have hlt:w.heap.size+3<w1.heap.size:=by omega
 have hne:w.heap.size+3≠w1.heap.size:=by omega
 clear hrd hsc hb1 hr1 hc1
 go_wp2_with fail
 have hv1:=QI (Below.refl _ (w1.alloc (.cells #[.slice Ae T.es.length ne,.slice Ak T.ks.length nk,.slice Ac C.length nc] 29)))
 have h2:=HX.out _ (hbk1.out.trans (hv1.mono hs1))
 have hSM:(trEq T T&&decide (C=C))=true:=by simp[trEq]
 refine (QF T T C C _ _ _ _ _ _ _ (HT.out _ hv1) h2.2.1 (HCt.out _ hv1) h2.2.2.1).mono ?_
 rw[hSM]
 rintro e w2 ⟨rfl,hb2⟩
 have hbk2:=hid (hbk1.out.trans ((hv1.trans (hb2.mono (by simp))).mono hs1))
 obtain⟨hB2,hr2,hc2,hs2,q3,q4,q5⟩:=HX.out w2 hbk2.out
 clear h2 hv1 hSM hb2 q0 q1 q2
 go_wp2_with fail
 refine (Qq T C _ _ _ w2 hr2 hc2 HZ.out.1 HZ.out.2).mono ?_
 rw[HR.out]
 rintro e w3 ⟨rfl,hb3⟩
 clear hr2 hc2
 go_wp2_with fail
 go_ret
 exact⟨rfl,hB2.trans (hb3.mono (by omega))⟩
def conT (t:Tr)(c:List Sp)(keys:List ByteArray):Tr:=if caR t c then .mk [] (kp (offK keys) t.ks) else .mk [] []
def conC (t:Tr)(c:List Sp):List Sp:=if caR t c then c else []
def conE (t:Tr)(c:List Sp):Int:=if caR t c then 0 else 1
theorem YT (t:Tr):∀ (w:World) (ve vk:Value),t.rd w w.heap.size ve vk->t.sz<=900000 ->
  Calls Tryz.prog 72 #[.agg #[ve,vk]] w (RetTU w t):=by
 induction t using Tr.ind with
 |h es ks ih=>
 intro w ve vk h hN
 rw[QB]at h
 rw[Tr.sz]at hN
 have hkl:=ZA ks
 have HE:=hid h.1
 obtain⟨⟨A1,n,rfl,_⟩,⟨A2,m,rfl,c1,c2,c3⟩⟩:=h
 unfold Big at c2
 have hb0:Below w.heap.size w ((w.alloc (.cells #[.slice A1 es.length n,.slice A2 ks.length m] 25)).alloc (.cells #[.slice none 0 0,.slice none 0 0] 25)):=((Below.refl _ w).alloc (Nat.le_refl _) _).alloc (by simp) _
 go_enter Tryz.func72,Tryz.ntmps72
 go_wp2_with fail
 refine (Y2 es _ _ (HE.out.imp hb0 hb0.size fun _ _ _ h=>h) (by unfold Few;omega)).mono ?_
 rintro e w1 ⟨v1,rfl,ho1,hb1⟩
 obtain⟨Ae,ce,rfl⟩:=OwnP.shape ho1
 have hs1:=hb1.size
 simp only[World.size_alloc]at hs1
 have hB1:Below w.heap.size w w1:=hb0.trans (hb1.mono (by simp;omega))
 have hg1:w1.heap[w.heap.size+1]?=some (.cells #[.slice none 0 0,.slice none 0 0] 25 (0,0)):=(hb1.block (w.heap.size+1) (by simp)).trans (Qf (by simp))
 have q1:w1.cell? ⟨w.heap.size,1,none⟩=some (.slice A2 ks.length m):=by
  rw[hb1.cell (p:=⟨w.heap.size,1,none⟩) (by simp;omega),World.cell?_alloc_lt _ _ _ (by simp)];simp
 have HG1:=hid hg1
 have HO1:=hid ho1
 have HB1:=hid hb1
 clear hg1 ho1 hb1 hb0
 have hlt0:w.heap.size<w1.heap.size:=by omega
 go_wp2_with fail
 go_loopw [13] (fun i wr=>∃ k:Nat,k<=ks.length/\i=.int .i64 k/\∃ Ak ck,wr.heap[w1.heap.size]?=some (.cells #[.slice Ae es.length ce,.slice Ak (ks.take k).length ck] 25 (0,0)) /\
   OwnD wr (w1.heap.size+1) 96 3 KdU (fun b=>w1.heap.size+1<=b) (.slice Ak (ks.take k).length ck) (ks.take k)/\w1.heap.size+1<=wr.heap.size/\Below w1.heap.size w1 wr) (fun i _=>ks.length-(intOf i).toNat)
 case atStart=>exact⟨0,Nat.zero_le _,rfl,none,0,Qf rfl,OwnP.nil,by simp,(Below.refl _ _).alloc (Nat.le_refl _) _⟩
 case round=>
  obtain⟨k,hk,rfl,Ak,ck,hg,hown,hsz,hb⟩:=hrel
  have hB0:Below w.heap.size w wr:=hB1.trans (hb.mono (by omega))
  have hszk:=hown.lt
  by_cases hlt:k<ks.length
  ·obtain⟨⟨key,t⟩,hx⟩:∃ x,ks[k]?=some x:=⟨_,List.getElem?_eq_getElem hlt⟩
   obtain⟨b,off,rfl,hbB,hc⟩:=c3 (by rintro rfl;simp at hlt)
   obtain⟨cs,⟨ve',vk',rfl,hkb,hrd⟩,_,hu⟩:=hc k _ hx
   obtain⟨A3,n3,A4,n4,rfl,rfl⟩:=Qk hrd
   have hbo:∀ o,wr.cell? ⟨b,o,none⟩=w.cell? ⟨b,o,none⟩:=fun o=>hB0.cell (p:=⟨b,o,none⟩) hbB
   have e0:wr.cell? ⟨b,off+k*3,none⟩=some (.string key):=(hbo _).trans (hu 0 _ rfl)
   have e1:wr.cell? ⟨b,off+k*3+1,none⟩=some (.slice A3 t.es.length n3):=(hbo _).trans (hu 1 _ rfl)
   have e2:wr.cell? ⟨b,off+k*3+2,none⟩=some (.slice A4 t.ks.length n4):=(hbo _).trans (hu 2 _ rfl)
   have hmem:(key,t)∈ks:=List.mem_of_getElem? hx
   have HKB:=hid hkb
   have htz:t.sz<=900000:=by have:=Xn hmem;omega
   have HR:Hid (∀ w',Below w.heap.size w w'->t.rd w' w'.heap.size (.slice A3 t.es.length n3) (.slice A4 t.ks.length n4)):=fun w' hb'=>Qi hb' hb'.size _ _ _ hrd
   have HX:Hid (ks.take (k+1)=ks.take k++[(key,t)]):=by unfold Hid;rw[List.take_add_one,hx];rfl
   have hl1:(ks.take k).length=k:=by simp;omega
   have HL:Hid ((ks.take k).length + [(key,t)].length<=Few):=by unfold Hid Few;rw[hl1];simp;omega
   generalize ks.take k=js at *
   have HIH:=hid (ih key t hmem)
   have c0:wr.cell? ⟨w1.heap.size,1,none⟩=some (.slice Ak js.length ck):=Qa (i:=1) hg
   have hne0:w1.heap.size<wr.heap.size:=by omega
   have hne1:wr.heap.size≠w1.heap.size:=by omega
   have HS:Hid (∀ w',Below (wr.heap.size+1) (wr.alloc (.cells #[.string key,.slice A3 t.es.length n3,.slice A4 t.ks.length n4] 96)) w'->w'.cell? ⟨wr.heap.size,0,none⟩=some (.string key)/\w'.cell? ⟨wr.heap.size,1,none⟩=some (.slice A3 t.es.length n3)/\w'.cell? ⟨wr.heap.size,2,none⟩=some (.slice A4 t.ks.length n4)/\w'.cell? ⟨w1.heap.size,1,none⟩=some (.slice Ak js.length ck)):=fun w' hb'=>by
    refine⟨?_,?_,?_,?_⟩
    ·rw[hb'.cell (p:=⟨wr.heap.size,0,none⟩) (by simp)];simp
    ·rw[hb'.cell (p:=⟨wr.heap.size,1,none⟩) (by simp)];simp
    ·rw[hb'.cell (p:=⟨wr.heap.size,2,none⟩) (by simp)];simp
    ·rw[hb'.cell (p:=⟨w1.heap.size,1,none⟩) (by show w1.heap.size<_;omega),World.cell?_alloc_lt _ _ _ hne0];exact c0
   have HOWN:Hid (∀ W,Below wr.heap.size wr W->OwnD W (w1.heap.size+1) 96 3 KdU (fun b=>w1.heap.size+1<=b) (.slice Ak js.length ck) js):=fun W hW=>hown.grow KdU.mon hW
   have HGW:Hid (∀ W,Below wr.heap.size wr W->W.heap[w1.heap.size]?=some (.cells #[.slice Ae es.length ce,.slice Ak js.length ck] 25 (0,0))):=fun W hW=>(hW.block _ hne0).trans hg
   have hWK:Hid (∀ W,Below (wr.heap.size+1) (wr.alloc (.cells #[.string key,.slice A3 t.es.length n3,.slice A4 t.ks.length n4] 96)) W->Below wr.heap.size wr W):=fun W hW=>((Below.refl _ wr).alloc (Nat.le_refl _) _).trans (hW.mono (by omega))
   have hw1:w1.heap.size<w1.heap.size+1:=by omega
   have HRW:=hid (HR.out _ (hB0.trans ((hWK.out _ ((Below.refl (wr.heap.size+1) (wr.alloc (.cells #[.string key,.slice A3 t.es.length n3,.slice A4 t.ks.length n4] 96))).drew)).mono (by omega))))
   clear hu hbo hx hc c3 hrd hkb hmem ih hg hown hl1
   go_upto_region 5 with (fail)
   obtain⟨z0,z1,z2,z3⟩:=HS.out _ (Below.refl _ _)
   obtain⟨y0,y1,y2,y3⟩:=HS.out _ ((Below.refl (wr.heap.size+1) (wr.alloc (.cells #[.string key,.slice A3 t.es.length n3,.slice A4 t.ks.length n4] 96))).drew)
   go_region_law
    (first
        |(go_simp;go_at_call 72;go_loud ((refine (HIH.out _ _ _ HRW.out htz).mono ?_);rintro e w3 ⟨ve3,vk3,rfl,hrd,hb3⟩;obtain⟨Av,nv,Aw,nw,rfl,rfl⟩:=Ql hrd;have hb3':=hid (((Below.refl (wr.heap.size+1) (wr.alloc (.cells #[.string key,.slice A3 t.es.length n3,.slice A4 t.ks.length n4] 96))).drew).trans (hb3.mono (by simp)));have hs3:=hb3'.out.size;simp only[World.size_alloc]at hs3;obtain⟨p0,p1,p2,p3⟩:=HS.out w3 hb3'.out;have a0:=fun (o:Obj)=>(HS.out (w3.alloc o) (hb3'.out.alloc (by omega) o)).1;have a1:=fun (o:Obj)=>(HS.out (w3.alloc o) (hb3'.out.alloc (by omega) o)).2.1; have a2:=fun (o:Obj)=>(HS.out (w3.alloc o) (hb3'.out.alloc (by omega) o)).2.2.1;have a3:=fun (o:Obj)=>(HS.out (w3.alloc o) (hb3'.out.alloc (by omega) o)).2.2.2))
        |(have hQ3:=hb3';go_loud ((refine KV (v:=.slice Ak js.length ck) rfl (.tmp 18) (.tmp 25) _ rfl KdU.mon eiKid (by decide) (by decide) rfl (HOWN.out _ (hWK.out _ (hb3'.out.alloc (by omega) _))) rfl (Ys hrd HKB.out (fun b hb=>⟨hb.2,by have:=hb.1;simp only[World.size_drew,World.size_alloc]at *;omega,by rw[World.size_alloc];have:=hb.2;omega,fun e=>by have:=hszk b e;have:=hb.1;simp only[World.size_drew,World.size_alloc]at *;omega⟩) _ (by rw[World.size_alloc];omega)) HL.out (by rw[World.size_alloc];omega) ?_);intro v1 w4 hown4 hb4 _ _;have hsh4:∃ A c,v1=.slice A (js++[(key,t)]).length c:=OwnP.shape hown4;obtain⟨A1,c1,hv1⟩:=hsh4;subst hv1;have hg34:=hid ((hb4.block _ hw1).trans (HGW.out _ (hWK.out _ (hb3'.out.alloc (by omega) _))));have hc4:w4.cell? ⟨w1.heap.size,1,none⟩=some (.slice Ak js.length ck):=Qa (i:=1) hg34.out;have hf4:=Qb (i:=1) hg34.out)))
   all_goals go_wp2_with fail
   all_goals (
    have hW:=hWK.out _ (hb3'.out.alloc (by omega) (.cells #[.string key,.slice Av t.es.length nv,.slice Aw t.ks.length nw] 96))
    have hz4:=hb4.size
    rw[World.size_alloc]at hz4
    refine⟨⟨k+1,by omega,by go_num,A1,c1,?_,?_,?_,?_⟩,by simp[intOf];omega⟩
    ·rw[HX.out];simpa using Qe (i:=1) hg34.out (.slice A1 (js.length+1) c1)
    ·rw[HX.out];exact OwnD.setOther hown4 KdU.mon hw1 (by simp) _
    ·simp[World.setCell];omega
    ·exact ((hb.trans (hW.mono (by omega))).trans (hb4.mono (by omega))).setCell (by simp) _)
  ·obtain rfl:k=ks.length:=by omega
   rw[List.take_of_length_le (Nat.le_refl _)]at hg hown hszk
   have c0:wr.cell? ⟨w1.heap.size,0,none⟩=some (.slice Ae es.length ce):=Qa (i:=0) hg
   have c1:wr.cell? ⟨w1.heap.size,1,none⟩=some (.slice Ak ks.length ck):=Qa (i:=1) hg
   have hg2:wr.heap[w.heap.size+1]?=some (.cells #[.slice none 0 0,.slice none 0 0] 25 (0,0)):=(hb.block _ (by omega)).trans HG1.out
   have d0:wr.cell? ⟨w.heap.size+1,0,none⟩=some (.slice none 0 0):=Qa (i:=0) hg2
   have d1:wr.cell? ⟨w.heap.size+1,1,none⟩=some (.slice none 0 0):=Qa (i:=1) hg2
   have z0:=Qb (i:=0) hg2
   have z1:=Qb (i:=1) hg2
   go_wp2_with fail
   have hW0:=Qe (i:=1) (Qe (i:=0) hg2 (.slice Ae es.length ce)) (.slice Ak ks.length ck)
   have hKW:∀ b,w.heap.size+2<=b->((wr.setCell ⟨w.heap.size+1,0,none⟩ (.slice Ae es.length ce)).setCell ⟨w.heap.size+1,1,none⟩ (.slice Ak ks.length ck)).heap[b]?=wr.heap[b]?:=fun b hb=>(Below.heap_setCell _ _ _ _ (by simp;omega)).trans (Below.heap_setCell _ _ _ _ (by simp;omega))
   have hSW:((wr.setCell ⟨w.heap.size+1,0,none⟩ (.slice Ae es.length ce)).setCell ⟨w.heap.size+1,1,none⟩ (.slice Ak ks.length ck)).heap.size=wr.heap.size:=by simp[World.setCell]
   have hBW:Below w.heap.size w ((wr.setCell ⟨w.heap.size+1,0,none⟩ (.slice Ae es.length ce)).setCell ⟨w.heap.size+1,1,none⟩ (.slice Ak ks.length ck)):=(hB0.setCell (by simp) _).setCell (by simp) _
   clear c0 c1 d0 d1 z0 z1
   generalize ((wr.setCell ⟨w.heap.size+1,0,none⟩ (.slice Ae es.length ce)).setCell ⟨w.heap.size+1,1,none⟩ (.slice Ak ks.length ck))=W at *
   have r0:W.cell? ⟨w.heap.size+1,0,none⟩=some (.slice Ae es.length ce):=(Qa (i:=0) hW0).trans (by simp)
   have r1:W.cell? ⟨w.heap.size+1,1,none⟩=some (.slice Ak ks.length ck):=(Qa (i:=1) hW0).trans (by simp)
   refine bodyPost_ret (v:=.agg #[.slice Ae es.length ce,.slice Ak ks.length ck]) (by simp[results,Tryz.results72,go_sem,r0,r1]) rfl ⟨_,_,rfl,?_,hBW⟩
   rw[XF]
   refine⟨(HO1.out.slu (by unfold Big;omega)).up (fun b hb'=>(hKW b (by have:=hb'.1;simp only[World.size_alloc]at this;omega)).trans (hb.block b hb'.2.1)) (fun b hb'=>⟨by have:=hb'.1;simp only[World.size_alloc]at this;omega,by have:=hb'.2.1;omega⟩) (fun _ _ _ h=>h),(OwnP.slu hown (by unfold Big;omega)).up (fun b hb'=>hKW b (by have:=hb'.1;omega)) (fun b hb'=>⟨by have:=hb'.1;omega,by have:=hb'.2.1;omega⟩) ?_⟩
   intro x _ cs hx
   exact KdU.mon.up (fun b hb'=>hKW b (by have:=hb'.1;omega)) (fun b hb'=>⟨by have:=hb'.1;omega,by have:=hb'.2.1;omega⟩) hx
end Go.Proofs.YtbcoelggdikipaaGreat
