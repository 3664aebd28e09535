/- What the laws need. No condition but those that each lemma states. -/
import Derived.Test.YtbcoelggdikipaaGreatUw9
import Derived.Test.YtbcoelggdikipaaGreatUw7
import Derived.Test.YtbcoelggdikipaaGreatUw6
import Derived.Test.YtbcoelggdikipaaGreatUw4
import Derived.Test.YtbcoelggdikipaaGreatUw8
import Derived.Test.YtbcoelggdikipaaGreatUw2
import Derived.Test.YtbcoelggdikipaaGreatUw3
set_option maxRecDepth 100000
set_option maxHeartbeats 8000000
set_option linter.unusedSimpArgs false
namespace Go.Proofs.YtbcoelggdikipaaGreat
open Go.RowKit
def updE (t:Tr)(key:ByteArray)(D:Tr)(c:List Sp):Int:=
 if !(t.right 5)||!caR D c||!keyB key then 1 else if !empB D.es.length D.ks.length&&decide (24<=t.ks.length)&&!(t.ks.any fun y=>decide (y.1=key)) then 4 else wrapE D key
def updT (t:Tr)(key:ByteArray)(D:Tr)(c:List Sp):Tr:=if updE t key D c=0 then wrapT D key else .mk [] []
def updC (t:Tr)(key:ByteArray)(D:Tr)(c:List Sp):List Sp:=if updE t key D c=0 then c else []
theorem Q1 {w3:World}{b:Nat}{x0 x1 x2:Value}{a:Addr}{v:Value}(hne:b≠a.block)(h:w3.cell? a=some v) :
  (((w3.setCell ⟨b,0,none⟩ x0).setCell ⟨b,1,none⟩ x1).setCell ⟨b,2,none⟩ x2).cell? a=some v:=by
 rw[World.cell?_setCell_far _ _ _ _ hne,World.cell?_setCell_far _ _ _ _ hne,World.cell?_setCell_far _ _ _ _ hne];exact h
theorem Kj (t D:Tr)(c:List Sp)(key:ByteArray)(ve vk xe xk xc:Value)(w:World)(h:t.rd w w.heap.size ve vk)(hD:D.rd w w.heap.size xe xk)(hc:SlP w w.heap.size 3 SpE xc c)(hkey:key.size<=Big)(hN:t.sz<=4000)(hN':D.sz<=4000)(hN2:c.length<=20000) :
  Calls Tryz.prog 100 #[.agg #[ve,vk],.string key,.agg #[xe,xk,xc]] w (RetCE w (updT t key D c) (updC t key D c) (updE t key D c)):=by
 have HT:Hid (∀ w',Below w.heap.size w w'->t.rd w' w'.heap.size ve vk):=fun w' hb=>Qi hb hb.size _ _ _ h
 have HD:Hid (∀ w',Below w.heap.size w w'->D.rd w' w'.heap.size xe xk):=fun w' hb=>Qi hb hb.size _ _ _ hD
 have HC:Hid (∀ w',Below w.heap.size w w'->SlP w' w'.heap.size 3 SpE xc c):=fun w' hb=>hc.imp hb hb.size fun _ _ _ h=>h
 have HKS:Hid (∀ w',Below w.heap.size w w'->SlP w' w'.heap.size 3 (KdE w' w'.heap.size) vk t.ks):=fun w' hb=>by
  have:=HT.out w' hb;obtain⟨es,ks⟩:=t;exact (QA.1 this).2
 obtain⟨A3,n3,A4,n4,rfl,rfl⟩:=Qj h
 obtain⟨A5,n5,A6,n6,rfl,rfl⟩:=Qj hD
 obtain⟨A7,n7,rfl,_⟩:=hc
 have hkb:key.size<=140737488355328:=hkey
 clear h hD
 have hb0:Below w.heap.size w ((((w.alloc (.cells #[.slice A3 t.es.length n3,.slice A4 t.ks.length n4] 25)).alloc (.cells #[.string key] 9)).alloc (.cells #[.slice A5 D.es.length n5,.slice A6 D.ks.length n6,.slice A7 c.length n7] 29)).alloc (.cells #[.slice none 0 0,.slice none 0 0,.slice none 0 0] 29)):=
  ((((Below.refl _ w).alloc (Nat.le_refl _) _).alloc (by simp) _).alloc (by simp<;>omega) _).alloc (by simp<;>omega) _
 have HW:Hid (∀ w',Below (w.heap.size+4) ((((w.alloc (.cells #[.slice A3 t.es.length n3,.slice A4 t.ks.length n4] 25)).alloc (.cells #[.string key] 9)).alloc (.cells #[.slice A5 D.es.length n5,.slice A6 D.ks.length n6,.slice A7 c.length n7] 29)).alloc (.cells #[.slice none 0 0,.slice none 0 0,.slice none 0 0] 29)) w' ->
   Below w.heap.size w w'/\w.heap.size+4<=w'.heap.size/\w'.heap[w.heap.size]?=some (.cells #[.slice A3 t.es.length n3,.slice A4 t.ks.length n4] 25 (0,0))/\w'.heap[w.heap.size+1]?=some (.cells #[.string key] 9 (0,0)) /\
   w'.heap[w.heap.size+2]?=some (.cells #[.slice A5 D.es.length n5,.slice A6 D.ks.length n6,.slice A7 c.length n7] 29 (0,0))/\w'.heap[w.heap.size+3]?=some (.cells #[.slice none 0 0,.slice none 0 0,.slice none 0 0] 29 (0,0))):=fun w' hb=>
  ⟨hb0.trans (hb.mono (by omega)),by have:=hb.size;simpa using this,(hb.block _ (by omega)).trans ((Qg (by simp<;>omega)).trans ((Qg (by simp<;>omega)).trans ((Qg (by simp)).trans (Qd rfl)))),(hb.block _ (by omega)).trans ((Qg (by simp<;>omega)).trans ((Qg (by simp)).trans (Qd (by simp)))),(hb.block _ (by omega)).trans ((Qg (by simp)).trans (Qd (by simp))),(hb.block _ (by omega)).trans (Qd (by simp))⟩
 go_enter Tryz.func100,Tryz.ntmps100
 go_wp2_with fail
 refine (QG t _ _ _ (HT.out _ hb0)).mono ?_
 rintro e w1 ⟨rfl,hb1⟩
 have hb1':=hid (hb1.mono (show w.heap.size+4<=_ by simp))
 obtain⟨hB1,hs1,g3,g4,g5,g6⟩:=HW.out _ hb1'.out
 have HG6:=hid g6
 have c0:w1.cell? ⟨w.heap.size,0,none⟩=some (.slice A3 t.es.length n3):=Qa (i:=0) g3
 have c1:w1.cell? ⟨w.heap.size,1,none⟩=some (.slice A4 t.ks.length n4):=Qa (i:=1) g3
 have d0:w1.cell? ⟨w.heap.size+1,0,none⟩=some (.string key):=Qa (i:=0) g4
 have e0:w1.cell? ⟨w.heap.size+2,0,none⟩=some (.slice A5 D.es.length n5):=Qa (i:=0) g5
 have e1:w1.cell? ⟨w.heap.size+2,1,none⟩=some (.slice A6 D.ks.length n6):=Qa (i:=1) g5
 have e2:w1.cell? ⟨w.heap.size+2,2,none⟩=some (.slice A7 c.length n7):=Qa (i:=2) g5
 have k0:w1.cell? ⟨w.heap.size+3,0,none⟩=some (.slice none 0 0):=Qa (i:=0) g6
 have k1:w1.cell? ⟨w.heap.size+3,1,none⟩=some (.slice none 0 0):=Qa (i:=1) g6
 have k2:w1.cell? ⟨w.heap.size+3,2,none⟩=some (.slice none 0 0):=Qa (i:=2) g6
 have z0:=Qb (i:=0) g6
 have z1:=Qb (i:=1) g6
 have z2:=Qb (i:=2) g6
 clear g3 g4 g5 g6
 clear hb1
 cases hr:t.right 5
 ·have HE:Hid (updE t key D c=1):=by unfold Hid updE;rw[hr];rfl
  have HTT:Hid (updT t key D c=.mk [] []):=by unfold Hid updT;rw[HE.out];rfl
  have HCC:Hid (updC t key D c=[]):=by unfold Hid updC;rw[HE.out];rfl
  clear hr
  go_wp2_with fail
  obtain⟨r0,r1,r2,hK,hS⟩:=box3 HG6.out (.slice none 0 0) (.slice none 0 0) (.slice none 0 0)
  have hBW:=((hB1.setCell (p:=⟨w.heap.size+3,0,none⟩) (by simp) (.slice none 0 0)).setCell (p:=⟨w.heap.size+3,1,none⟩) (by simp) (.slice none 0 0)).setCell (p:=⟨w.heap.size+3,2,none⟩) (by simp) (.slice none 0 0)
  refine bodyPost_ret (v:=.tuple #[.agg #[.slice none 0 0,.slice none 0 0,.slice none 0 0],.int .i64 1]) (by simp[results,Tryz.results100,go_sem,r0,r1,r2]) rfl ⟨_,_,_,by rw[HE.out],by rw[HTT.out];exact Qp _ _,by rw[HCC.out];exact SlA.nil,hBW⟩
 go_wp2_with fail
 refine (QR D c _ _ _ w1 (HD.out _ hB1) (HC.out _ hB1) hN' hN2).mono ?_
 rintro e w2 ⟨rfl,hb2⟩
 clear c0 c1 d0 e0 e1 e2 k0 k1 k2 z0 z1 z2 HG6
 have hb2':=hid (hb1'.out.trans (hb2.mono hs1))
 obtain⟨hB2,hs2,g3,g4,g5,g6⟩:=HW.out _ hb2'.out
 have HG6:=hid g6
 have c0:w2.cell? ⟨w.heap.size,0,none⟩=some (.slice A3 t.es.length n3):=Qa (i:=0) g3
 have c1:w2.cell? ⟨w.heap.size,1,none⟩=some (.slice A4 t.ks.length n4):=Qa (i:=1) g3
 have d0:w2.cell? ⟨w.heap.size+1,0,none⟩=some (.string key):=Qa (i:=0) g4
 have e0:w2.cell? ⟨w.heap.size+2,0,none⟩=some (.slice A5 D.es.length n5):=Qa (i:=0) g5
 have e1:w2.cell? ⟨w.heap.size+2,1,none⟩=some (.slice A6 D.ks.length n6):=Qa (i:=1) g5
 have e2:w2.cell? ⟨w.heap.size+2,2,none⟩=some (.slice A7 c.length n7):=Qa (i:=2) g5
 have k0:w2.cell? ⟨w.heap.size+3,0,none⟩=some (.slice none 0 0):=Qa (i:=0) g6
 have k1:w2.cell? ⟨w.heap.size+3,1,none⟩=some (.slice none 0 0):=Qa (i:=1) g6
 have k2:w2.cell? ⟨w.heap.size+3,2,none⟩=some (.slice none 0 0):=Qa (i:=2) g6
 have z0:=Qb (i:=0) g6
 have z1:=Qb (i:=1) g6
 have z2:=Qb (i:=2) g6
 clear g3 g4 g5 g6
 clear hb2
 cases hq:caR D c
 ·have HE:Hid (updE t key D c=1):=by unfold Hid updE;rw[hr,hq];rfl
  have HTT:Hid (updT t key D c=.mk [] []):=by unfold Hid updT;rw[HE.out];rfl
  have HCC:Hid (updC t key D c=[]):=by unfold Hid updC;rw[HE.out];rfl
  clear hr hq
  go_wp2_with fail
  obtain⟨r0,r1,r2,hK,hS⟩:=box3 HG6.out (.slice none 0 0) (.slice none 0 0) (.slice none 0 0)
  have hBW:=((hB2.setCell (p:=⟨w.heap.size+3,0,none⟩) (by simp) (.slice none 0 0)).setCell (p:=⟨w.heap.size+3,1,none⟩) (by simp) (.slice none 0 0)).setCell (p:=⟨w.heap.size+3,2,none⟩) (by simp) (.slice none 0 0)
  refine bodyPost_ret (v:=.tuple #[.agg #[.slice none 0 0,.slice none 0 0,.slice none 0 0],.int .i64 1]) (by simp[results,Tryz.results100,go_sem,r0,r1,r2]) rfl ⟨_,_,_,by rw[HE.out],by rw[HTT.out];exact Qp _ _,by rw[HCC.out];exact SlA.nil,hBW⟩
 cases kb:keyB key
 ·have hkb2:¬(1<=key.size/\key.size<=30):=by simpa[keyB] using kb
  have HE:Hid (updE t key D c=1):=by unfold Hid updE;rw[hr,hq,kb];rfl
  have HTT:Hid (updT t key D c=.mk [] []):=by unfold Hid updT;rw[HE.out];rfl
  have HCC:Hid (updC t key D c=[]):=by unfold Hid updC;rw[HE.out];rfl
  clear hr hq kb
  by_cases hz:key.size<1
  ·have t1:decide ((key.size:Int)<1)=true:=by simp;omega
   go_wp2_with fail
   obtain⟨r0,r1,r2,hK,hS⟩:=box3 HG6.out (.slice none 0 0) (.slice none 0 0) (.slice none 0 0)
   have hBW:=((hB2.setCell (p:=⟨w.heap.size+3,0,none⟩) (by simp) (.slice none 0 0)).setCell (p:=⟨w.heap.size+3,1,none⟩) (by simp) (.slice none 0 0)).setCell (p:=⟨w.heap.size+3,2,none⟩) (by simp) (.slice none 0 0)
   refine bodyPost_ret (v:=.tuple #[.agg #[.slice none 0 0,.slice none 0 0,.slice none 0 0],.int .i64 1]) (by simp[results,Tryz.results100,go_sem,r0,r1,r2]) rfl ⟨_,_,_,by rw[HE.out],by rw[HTT.out];exact Qp _ _,by rw[HCC.out];exact SlA.nil,hBW⟩
  ·have t1:decide ((key.size:Int)<1)=false:=by simp;omega
   have t2:decide ((30:Int)<key.size)=true:=by simp;omega
   go_wp2_with fail
   obtain⟨r0,r1,r2,hK,hS⟩:=box3 HG6.out (.slice none 0 0) (.slice none 0 0) (.slice none 0 0)
   have hBW:=((hB2.setCell (p:=⟨w.heap.size+3,0,none⟩) (by simp) (.slice none 0 0)).setCell (p:=⟨w.heap.size+3,1,none⟩) (by simp) (.slice none 0 0)).setCell (p:=⟨w.heap.size+3,2,none⟩) (by simp) (.slice none 0 0)
   refine bodyPost_ret (v:=.tuple #[.agg #[.slice none 0 0,.slice none 0 0,.slice none 0 0],.int .i64 1]) (by simp[results,Tryz.results100,go_sem,r0,r1,r2]) rfl ⟨_,_,_,by rw[HE.out],by rw[HTT.out];exact Qp _ _,by rw[HCC.out];exact SlA.nil,hBW⟩
 have hkb2:1<=key.size/\key.size<=30:=by simpa[keyB] using kb
 have t1:decide ((key.size:Int)<1)=false:=by simp;omega
 have t2:decide ((30:Int)<key.size)=false:=by simp;omega
 go_wp2_with fail
 refine (KO (fun y=>decide (y=key)) _ _ t.ks _ w2 (HKS.out _ hB2) (zXs d0 (by omega))).mono ?_
 rintro e w3 ⟨rfl,hb3⟩
 clear c0 c1 d0 e0 e1 e2 k0 k1 k2 z0 z1 z2 HG6
 have hb3':=hid (hb2'.out.trans (hb3.mono hs2))
 obtain⟨hB3,hs3,g3,g4,g5,g6⟩:=HW.out _ hb3'.out
 have HG6:=hid g6
 have c0:w3.cell? ⟨w.heap.size,0,none⟩=some (.slice A3 t.es.length n3):=Qa (i:=0) g3
 have c1:w3.cell? ⟨w.heap.size,1,none⟩=some (.slice A4 t.ks.length n4):=Qa (i:=1) g3
 have d0:w3.cell? ⟨w.heap.size+1,0,none⟩=some (.string key):=Qa (i:=0) g4
 have e0:w3.cell? ⟨w.heap.size+2,0,none⟩=some (.slice A5 D.es.length n5):=Qa (i:=0) g5
 have e1:w3.cell? ⟨w.heap.size+2,1,none⟩=some (.slice A6 D.ks.length n6):=Qa (i:=1) g5
 have e2:w3.cell? ⟨w.heap.size+2,2,none⟩=some (.slice A7 c.length n7):=Qa (i:=2) g5
 have k0:w3.cell? ⟨w.heap.size+3,0,none⟩=some (.slice none 0 0):=Qa (i:=0) g6
 have k1:w3.cell? ⟨w.heap.size+3,1,none⟩=some (.slice none 0 0):=Qa (i:=1) g6
 have k2:w3.cell? ⟨w.heap.size+3,2,none⟩=some (.slice none 0 0):=Qa (i:=2) g6
 have z0:=Qb (i:=0) g6
 have z1:=Qb (i:=1) g6
 have z2:=Qb (i:=2) g6
 clear g3 g4 g5 g6
 clear hb3
 go_wp2_with fail
 refine (QE D.es.length D.ks.length A5 A6 n5 n6 w3).mono ?_
 rintro e w4 ⟨rfl,hb4⟩
 clear c0 c1 d0 e0 e1 e2 k0 k1 k2 z0 z1 z2 HG6
 have hb4':=hid (hb3'.out.trans (hb4.mono hs3))
 obtain⟨hB4,hs4,g3,g4,g5,g6⟩:=HW.out _ hb4'.out
 have HG6:=hid g6
 have c0:w4.cell? ⟨w.heap.size,0,none⟩=some (.slice A3 t.es.length n3):=Qa (i:=0) g3
 have c1:w4.cell? ⟨w.heap.size,1,none⟩=some (.slice A4 t.ks.length n4):=Qa (i:=1) g3
 have d0:w4.cell? ⟨w.heap.size+1,0,none⟩=some (.string key):=Qa (i:=0) g4
 have e0:w4.cell? ⟨w.heap.size+2,0,none⟩=some (.slice A5 D.es.length n5):=Qa (i:=0) g5
 have e1:w4.cell? ⟨w.heap.size+2,1,none⟩=some (.slice A6 D.ks.length n6):=Qa (i:=1) g5
 have e2:w4.cell? ⟨w.heap.size+2,2,none⟩=some (.slice A7 c.length n7):=Qa (i:=2) g5
 have k0:w4.cell? ⟨w.heap.size+3,0,none⟩=some (.slice none 0 0):=Qa (i:=0) g6
 have k1:w4.cell? ⟨w.heap.size+3,1,none⟩=some (.slice none 0 0):=Qa (i:=1) g6
 have k2:w4.cell? ⟨w.heap.size+3,2,none⟩=some (.slice none 0 0):=Qa (i:=2) g6
 have z0:=Qb (i:=0) g6
 have z1:=Qb (i:=1) g6
 have z2:=Qb (i:=2) g6
 clear g3 g4 g5 g6
 clear hb4
 have hfi:decide ((24:Int)<=(t.ks.length:Int))=decide (24<=t.ks.length):=by rw[Bool.eq_iff_iff];simp;omega
 cases em:empB D.es.length D.ks.length
 ·cases fl:decide (24<=t.ks.length)
  ·have HE0:Hid (updE t key D c=wrapE D key):=by unfold Hid updE;rw[hr,hq,kb,em,fl];simp
   rw[fl]at hfi
   clear em fl
   clear hr hq kb
   go_wp2_with fail
   refine (YJ D key _ _ _ _ (HD.out _ (hB4.alloc (by omega) _)) (SlP.oneB (x:=key) (cs:=[.string key]) ⟨rfl,hkey⟩ rfl _ rfl (by simp)) (by omega)).mono ?_
   rintro e w5 ⟨v5,u5,rfl,hrd5,hb5⟩
   obtain⟨A8,n8,A9,n9,rfl,rfl⟩:=Ql hrd5
   clear c0 c1 d0 e0 e1 e2 k0 k1 k2 z0 z1 z2 HG6
   have hb5':=hid (hb4'.out.trans ((((Below.refl w4.heap.size w4).alloc (Nat.le_refl _) _).trans (hb5.mono (show w4.heap.size<=_ by simp))).mono hs4))
   obtain⟨hB5,hs5,g3,g4,g5,g6⟩:=HW.out _ hb5'.out
   have HG6:=hid g6
   have c0:w5.cell? ⟨w.heap.size,0,none⟩=some (.slice A3 t.es.length n3):=Qa (i:=0) g3
   have c1:w5.cell? ⟨w.heap.size,1,none⟩=some (.slice A4 t.ks.length n4):=Qa (i:=1) g3
   have d0:w5.cell? ⟨w.heap.size+1,0,none⟩=some (.string key):=Qa (i:=0) g4
   have e0:w5.cell? ⟨w.heap.size+2,0,none⟩=some (.slice A5 D.es.length n5):=Qa (i:=0) g5
   have e1:w5.cell? ⟨w.heap.size+2,1,none⟩=some (.slice A6 D.ks.length n6):=Qa (i:=1) g5
   have e2:w5.cell? ⟨w.heap.size+2,2,none⟩=some (.slice A7 c.length n7):=Qa (i:=2) g5
   have k0:w5.cell? ⟨w.heap.size+3,0,none⟩=some (.slice none 0 0):=Qa (i:=0) g6
   have k1:w5.cell? ⟨w.heap.size+3,1,none⟩=some (.slice none 0 0):=Qa (i:=1) g6
   have k2:w5.cell? ⟨w.heap.size+3,2,none⟩=some (.slice none 0 0):=Qa (i:=2) g6
   have z0:=Qb (i:=0) g6
   have z1:=Qb (i:=1) g6
   have z2:=Qb (i:=2) g6
   clear g3 g4 g5 g6
   have hs5':=hb5.size
   simp only[World.size_alloc]at hs5'
   clear hb5
   have hlt3:w.heap.size+3<w5.heap.size:=by omega
   have hne3:w.heap.size+3≠w5.heap.size:=by omega
   have hlt2:w.heap.size+2<w5.heap.size:=by omega
   have hne2:w.heap.size+2≠w5.heap.size:=by omega
   have hw3:wrapE D key=0∨wrapE D key=1∨wrapE D key=10:=by unfold wrapE;split<;>(try split)<;>simp
   have HTX:Hid (updT t key D c=if wrapE D key=0 then wrapT D key else .mk [] []):=by unfold Hid updT;rw[HE0.out]
   have HCX:Hid (updC t key D c=if wrapE D key=0 then c else []):=by unfold Hid updC;rw[HE0.out]
   rw[HE0.out]
   generalize wrapE D key=K at *
   generalize wrapT D key=T at *
   rcases hw3 with rfl|rfl|rfl
   ·have HX:Hid (∀ w',Below (w5.heap.size+1) (w5.alloc (.cells #[.slice A8 T.es.length n8,.slice A9 T.ks.length n9] 25)) w'->Below w5.heap.size w5 w'/\(w'.cell? ⟨w.heap.size+2,2,none⟩=some (.slice A7 c.length n7)/\w'.cell? ⟨w5.heap.size,0,none⟩=some (.slice A8 T.es.length n8)/\w'.cell? ⟨w5.heap.size,1,none⟩=some (.slice A9 T.ks.length n9))):=fun w' hb=>by
     have hB:Below w5.heap.size w5 w':=((Below.refl _ w5).alloc (Nat.le_refl _) _).trans (hb.mono (by omega))
     refine⟨hB,(hB.cell (p:=⟨w.heap.size+2,2,none⟩) (by show w.heap.size+2<_;omega)).trans e2,?_,?_⟩
     ·rw[hb.cell (p:=⟨w5.heap.size,0,none⟩) (by simp),World.cell?_alloc_new];rfl
     ·rw[hb.cell (p:=⟨w5.heap.size,1,none⟩) (by simp),World.cell?_alloc_new];rfl
    clear c0 c1 d0 e0 e1 k0 k1 k2 z0 z1 z2
    go_upto_region 9 with (fail)
    go_region_held3 (fun w'=>w'.cell? ⟨w.heap.size+2,2,none⟩=some (.slice A7 c.length n7)/\w'.cell? ⟨w5.heap.size,0,none⟩=some (.slice A8 T.es.length n8)/\w'.cell? ⟨w5.heap.size,1,none⟩=some (.slice A9 T.ks.length n9))
     (first|go_keep|exact (HX.out _ hbx.out).2|exact⟨Q1 (by simp) (HX.out _ hbx.out).2.1,Q1 (by show w.heap.size+3≠_;omega) (HX.out _ hbx.out).2.2.1,Q1 (by show w.heap.size+3≠_;omega) (HX.out _ hbx.out).2.2.2⟩)
     (first|(go_at_call 37;go_loud ((refine (YU c _ _ (HC.out _ ((hB5.alloc (by omega) _).drew)) (by unfold Few;omega)).mono ?_);rintro e w6 ⟨v6,rfl,ho6,hb6⟩;obtain⟨A10,c10,hv6⟩:=ho6.shape;subst hv6;have HO6:=hid ho6;have hbx:Hid (Below (w5.heap.size+1) (w5.alloc (.cells #[.slice A8 T.es.length n8,.slice A9 T.ks.length n9] 25)) w6):=(((Below.refl (w5.heap.size+1) (w5.alloc (.cells #[.slice A8 T.es.length n8,.slice A9 T.ks.length n9] 25))).drew).trans (hb6.mono (by simp)));have hby:=hid (HX.out _ hbx.out).1;have hs6:w5.heap.size+1<=w6.heap.size:=(by have:=hbx.out.size;simpa using this);have HGx:=hid ((hby.out.block (w.heap.size+3) (by omega)).trans HG6.out);have k0:w6.cell? ⟨w.heap.size+3,0,none⟩=some (.slice none 0 0):=Qa (i:=0) HGx.out;have k1:w6.cell? ⟨w.heap.size+3,1,none⟩=some (.slice none 0 0):=Qa (i:=1) HGx.out;have k2:w6.cell? ⟨w.heap.size+3,2,none⟩=some (.slice none 0 0):=Qa (i:=2) HGx.out;have z0:=Qb (i:=0) HGx.out;have z1:=Qb (i:=1) HGx.out;have z2:=Qb (i:=2) HGx.out;have hlt6:w.heap.size+3<w6.heap.size:=(by omega);have hne6:w.heap.size+3≠w6.heap.size:=(by omega);clear ho6 hb6)))
    all_goals go_wp2_with fail
    obtain⟨r0,r1,r2,hK,hS⟩:=box3 HGx.out (.slice A8 T.es.length n8) (.slice A9 T.ks.length n9) (.slice A10 c.length c10)
    have hBW:Below w.heap.size w (((w6.setCell ⟨w.heap.size+3,0,none⟩ (.slice A8 T.es.length n8)).setCell ⟨w.heap.size+3,1,none⟩ (.slice A9 T.ks.length n9)).setCell ⟨w.heap.size+3,2,none⟩ (.slice A10 c.length c10)):=(((hB5.trans (hby.out.mono (by omega))).setCell (by simp) _).setCell (by simp) _).setCell (by simp) _
    clear k0 k1 k2 z0 z1 z2
    generalize (((w6.setCell ⟨w.heap.size+3,0,none⟩ (.slice A8 T.es.length n8)).setCell ⟨w.heap.size+3,1,none⟩ (.slice A9 T.ks.length n9)).setCell ⟨w.heap.size+3,2,none⟩ (.slice A10 c.length c10))=W at *
    refine bodyPost_ret (v:=.tuple #[.agg #[.slice A8 T.es.length n8,.slice A9 T.ks.length n9,.slice A10 c.length c10],.int .i64 0]) (by simp[results,Tryz.results100,go_sem,r0,r1,r2]) rfl ⟨_,_,_,by rw[HE0.out],?_,?_,hBW⟩
    ·rw[HTX.out,if_pos trivial]
     exact Qs (fun b hb=>(hK b (by have:=hb.1;simp only[World.size_alloc]at this;omega)).trans (hby.out.block b hb.2)) (fun b hb=>⟨by have:=hb.1;simp only[World.size_alloc]at this;omega,by have:=hb.2;omega⟩) _ _ _ hrd5
    ·rw[HCX.out,if_pos trivial]
     refine (HO6.out.sla (by unfold Big;omega)).up (fun b hb=>hK b (by have:=hb.1;simp only[World.size_alloc,World.size_drew]at this;omega)) (fun b hb=>⟨by have:=hb.1;simp only[World.size_alloc,World.size_drew]at this;omega,by have:=hb.2.1;omega⟩) (fun _ _ _ h=>h)
   ·go_wp2_with fail
    obtain⟨r0,r1,r2,hK,hS⟩:=box3 HG6.out (.slice none 0 0) (.slice none 0 0) (.slice none 0 0)
    have hBW:Below w.heap.size w (((w5.setCell ⟨w.heap.size+3,0,none⟩ (.slice none 0 0)).setCell ⟨w.heap.size+3,1,none⟩ (.slice none 0 0)).setCell ⟨w.heap.size+3,2,none⟩ (.slice none 0 0)):=((hB5.setCell (by simp) _).setCell (by simp) _).setCell (by simp) _
    clear c0 c1 d0 e0 e1 e2 k0 k1 k2 z0 z1 z2
    generalize (((w5.setCell ⟨w.heap.size+3,0,none⟩ (.slice none 0 0)).setCell ⟨w.heap.size+3,1,none⟩ (.slice none 0 0)).setCell ⟨w.heap.size+3,2,none⟩ (.slice none 0 0))=W at *
    have q0:(W.alloc (.cells #[.slice A8 T.es.length n8,.slice A9 T.ks.length n9] 25)).cell? ⟨w.heap.size+1+1+1,0,none⟩=some (.slice none 0 0):=by rw[World.cell?_alloc_lt _ _ _ (by show w.heap.size+3<_;omega)];exact r0
    have q1:(W.alloc (.cells #[.slice A8 T.es.length n8,.slice A9 T.ks.length n9] 25)).cell? ⟨w.heap.size+1+1+1,1,none⟩=some (.slice none 0 0):=by rw[World.cell?_alloc_lt _ _ _ (by show w.heap.size+3<_;omega)];exact r1
    have q2:(W.alloc (.cells #[.slice A8 T.es.length n8,.slice A9 T.ks.length n9] 25)).cell? ⟨w.heap.size+1+1+1,2,none⟩=some (.slice none 0 0):=by rw[World.cell?_alloc_lt _ _ _ (by show w.heap.size+3<_;omega)];exact r2
    refine bodyPost_ret (v:=.tuple #[.agg #[.slice none 0 0,.slice none 0 0,.slice none 0 0],.int .i64 1]) (by simp[results,Tryz.results100,go_sem,q0,q1,q2]) rfl ⟨_,_,_,by rw[HE0.out],by rw[HTX.out,if_neg (by decide)];exact Qp _ _,by rw[HCX.out,if_neg (by decide)];exact SlA.nil,hBW.alloc (by omega) _⟩
   ·go_wp2_with fail
    obtain⟨r0,r1,r2,hK,hS⟩:=box3 HG6.out (.slice none 0 0) (.slice none 0 0) (.slice none 0 0)
    have hBW:Below w.heap.size w (((w5.setCell ⟨w.heap.size+3,0,none⟩ (.slice none 0 0)).setCell ⟨w.heap.size+3,1,none⟩ (.slice none 0 0)).setCell ⟨w.heap.size+3,2,none⟩ (.slice none 0 0)):=((hB5.setCell (by simp) _).setCell (by simp) _).setCell (by simp) _
    clear c0 c1 d0 e0 e1 e2 k0 k1 k2 z0 z1 z2
    generalize (((w5.setCell ⟨w.heap.size+3,0,none⟩ (.slice none 0 0)).setCell ⟨w.heap.size+3,1,none⟩ (.slice none 0 0)).setCell ⟨w.heap.size+3,2,none⟩ (.slice none 0 0))=W at *
    have q0:(W.alloc (.cells #[.slice A8 T.es.length n8,.slice A9 T.ks.length n9] 25)).cell? ⟨w.heap.size+1+1+1,0,none⟩=some (.slice none 0 0):=by rw[World.cell?_alloc_lt _ _ _ (by show w.heap.size+3<_;omega)];exact r0
    have q1:(W.alloc (.cells #[.slice A8 T.es.length n8,.slice A9 T.ks.length n9] 25)).cell? ⟨w.heap.size+1+1+1,1,none⟩=some (.slice none 0 0):=by rw[World.cell?_alloc_lt _ _ _ (by show w.heap.size+3<_;omega)];exact r1
    have q2:(W.alloc (.cells #[.slice A8 T.es.length n8,.slice A9 T.ks.length n9] 25)).cell? ⟨w.heap.size+1+1+1,2,none⟩=some (.slice none 0 0):=by rw[World.cell?_alloc_lt _ _ _ (by show w.heap.size+3<_;omega)];exact r2
    refine bodyPost_ret (v:=.tuple #[.agg #[.slice none 0 0,.slice none 0 0,.slice none 0 0],.int .i64 10]) (by simp[results,Tryz.results100,go_sem,q0,q1,q2]) rfl ⟨_,_,_,by rw[HE0.out],by rw[HTX.out,if_neg (by decide)];exact Qp _ _,by rw[HCX.out,if_neg (by decide)];exact SlA.nil,hBW.alloc (by omega) _⟩
  ·rw[fl]at hfi
   cases an:(t.ks.any fun y=>decide (y.1=key))
   ·have HE:Hid (updE t key D c=4):=by unfold Hid updE;rw[hr,hq,kb,em,fl,an];rfl
    have HTT:Hid (updT t key D c=.mk [] []):=by unfold Hid updT;rw[HE.out];rfl
    have HCC:Hid (updC t key D c=[]):=by unfold Hid updC;rw[HE.out];rfl
    clear hr hq kb em fl an
    go_wp2_with fail
    obtain⟨r0,r1,r2,hK,hS⟩:=box3 HG6.out (.slice none 0 0) (.slice none 0 0) (.slice none 0 0)
    have hBW:=((hB4.setCell (p:=⟨w.heap.size+3,0,none⟩) (by simp) (.slice none 0 0)).setCell (p:=⟨w.heap.size+3,1,none⟩) (by simp) (.slice none 0 0)).setCell (p:=⟨w.heap.size+3,2,none⟩) (by simp) (.slice none 0 0)
    refine bodyPost_ret (v:=.tuple #[.agg #[.slice none 0 0,.slice none 0 0,.slice none 0 0],.int .i64 4]) (by simp[results,Tryz.results100,go_sem,r0,r1,r2]) rfl ⟨_,_,_,by rw[HE.out],by rw[HTT.out];exact Qp _ _,by rw[HCC.out];exact SlA.nil,hBW⟩
   ·have HE0:Hid (updE t key D c=wrapE D key):=by unfold Hid updE;rw[hr,hq,kb,em,fl,an];simp
    clear em fl an
    clear hr hq kb
    go_wp2_with fail
    refine (YJ D key _ _ _ _ (HD.out _ (hB4.alloc (by omega) _)) (SlP.oneB (x:=key) (cs:=[.string key]) ⟨rfl,hkey⟩ rfl _ rfl (by simp)) (by omega)).mono ?_
    rintro e w5 ⟨v5,u5,rfl,hrd5,hb5⟩
    obtain⟨A8,n8,A9,n9,rfl,rfl⟩:=Ql hrd5
    clear c0 c1 d0 e0 e1 e2 k0 k1 k2 z0 z1 z2 HG6
    have hb5':=hid (hb4'.out.trans ((((Below.refl w4.heap.size w4).alloc (Nat.le_refl _) _).trans (hb5.mono (show w4.heap.size<=_ by simp))).mono hs4))
    obtain⟨hB5,hs5,g3,g4,g5,g6⟩:=HW.out _ hb5'.out
    have HG6:=hid g6
    have c0:w5.cell? ⟨w.heap.size,0,none⟩=some (.slice A3 t.es.length n3):=Qa (i:=0) g3
    have c1:w5.cell? ⟨w.heap.size,1,none⟩=some (.slice A4 t.ks.length n4):=Qa (i:=1) g3
    have d0:w5.cell? ⟨w.heap.size+1,0,none⟩=some (.string key):=Qa (i:=0) g4
    have e0:w5.cell? ⟨w.heap.size+2,0,none⟩=some (.slice A5 D.es.length n5):=Qa (i:=0) g5
    have e1:w5.cell? ⟨w.heap.size+2,1,none⟩=some (.slice A6 D.ks.length n6):=Qa (i:=1) g5
    have e2:w5.cell? ⟨w.heap.size+2,2,none⟩=some (.slice A7 c.length n7):=Qa (i:=2) g5
    have k0:w5.cell? ⟨w.heap.size+3,0,none⟩=some (.slice none 0 0):=Qa (i:=0) g6
    have k1:w5.cell? ⟨w.heap.size+3,1,none⟩=some (.slice none 0 0):=Qa (i:=1) g6
    have k2:w5.cell? ⟨w.heap.size+3,2,none⟩=some (.slice none 0 0):=Qa (i:=2) g6
    have z0:=Qb (i:=0) g6
    have z1:=Qb (i:=1) g6
    have z2:=Qb (i:=2) g6
    clear g3 g4 g5 g6
    have hs5':=hb5.size
    simp only[World.size_alloc]at hs5'
    clear hb5
    have hlt3:w.heap.size+3<w5.heap.size:=by omega
    have hne3:w.heap.size+3≠w5.heap.size:=by omega
    have hlt2:w.heap.size+2<w5.heap.size:=by omega
    have hne2:w.heap.size+2≠w5.heap.size:=by omega
    have hw3:wrapE D key=0∨wrapE D key=1∨wrapE D key=10:=by unfold wrapE;split<;>(try split)<;>simp
    have HTX:Hid (updT t key D c=if wrapE D key=0 then wrapT D key else .mk [] []):=by unfold Hid updT;rw[HE0.out]
    have HCX:Hid (updC t key D c=if wrapE D key=0 then c else []):=by unfold Hid updC;rw[HE0.out]
    rw[HE0.out]
    generalize wrapE D key=K at *
    generalize wrapT D key=T at *
    rcases hw3 with rfl|rfl|rfl
    ·have HX:Hid (∀ w',Below (w5.heap.size+1) (w5.alloc (.cells #[.slice A8 T.es.length n8,.slice A9 T.ks.length n9] 25)) w'->Below w5.heap.size w5 w'/\(w'.cell? ⟨w.heap.size+2,2,none⟩=some (.slice A7 c.length n7)/\w'.cell? ⟨w5.heap.size,0,none⟩=some (.slice A8 T.es.length n8)/\w'.cell? ⟨w5.heap.size,1,none⟩=some (.slice A9 T.ks.length n9))):=fun w' hb=>by
      have hB:Below w5.heap.size w5 w':=((Below.refl _ w5).alloc (Nat.le_refl _) _).trans (hb.mono (by omega))
      refine⟨hB,(hB.cell (p:=⟨w.heap.size+2,2,none⟩) (by show w.heap.size+2<_;omega)).trans e2,?_,?_⟩
      ·rw[hb.cell (p:=⟨w5.heap.size,0,none⟩) (by simp),World.cell?_alloc_new];rfl
      ·rw[hb.cell (p:=⟨w5.heap.size,1,none⟩) (by simp),World.cell?_alloc_new];rfl
     clear c0 c1 d0 e0 e1 k0 k1 k2 z0 z1 z2
     go_upto_region 9 with (fail)
     go_region_held3 (fun w'=>w'.cell? ⟨w.heap.size+2,2,none⟩=some (.slice A7 c.length n7)/\w'.cell? ⟨w5.heap.size,0,none⟩=some (.slice A8 T.es.length n8)/\w'.cell? ⟨w5.heap.size,1,none⟩=some (.slice A9 T.ks.length n9))
      (first|go_keep|exact (HX.out _ hbx.out).2|exact⟨Q1 (by simp) (HX.out _ hbx.out).2.1,Q1 (by show w.heap.size+3≠_;omega) (HX.out _ hbx.out).2.2.1,Q1 (by show w.heap.size+3≠_;omega) (HX.out _ hbx.out).2.2.2⟩)
      (first|(go_at_call 37;go_loud ((refine (YU c _ _ (HC.out _ ((hB5.alloc (by omega) _).drew)) (by unfold Few;omega)).mono ?_);rintro e w6 ⟨v6,rfl,ho6,hb6⟩;obtain⟨A10,c10,hv6⟩:=ho6.shape;subst hv6;have HO6:=hid ho6;have hbx:Hid (Below (w5.heap.size+1) (w5.alloc (.cells #[.slice A8 T.es.length n8,.slice A9 T.ks.length n9] 25)) w6):=(((Below.refl (w5.heap.size+1) (w5.alloc (.cells #[.slice A8 T.es.length n8,.slice A9 T.ks.length n9] 25))).drew).trans (hb6.mono (by simp)));have hby:=hid (HX.out _ hbx.out).1;have hs6:w5.heap.size+1<=w6.heap.size:=(by have:=hbx.out.size;simpa using this);have HGx:=hid ((hby.out.block (w.heap.size+3) (by omega)).trans HG6.out);have k0:w6.cell? ⟨w.heap.size+3,0,none⟩=some (.slice none 0 0):=Qa (i:=0) HGx.out;have k1:w6.cell? ⟨w.heap.size+3,1,none⟩=some (.slice none 0 0):=Qa (i:=1) HGx.out;have k2:w6.cell? ⟨w.heap.size+3,2,none⟩=some (.slice none 0 0):=Qa (i:=2) HGx.out;have z0:=Qb (i:=0) HGx.out;have z1:=Qb (i:=1) HGx.out;have z2:=Qb (i:=2) HGx.out;have hlt6:w.heap.size+3<w6.heap.size:=(by omega);have hne6:w.heap.size+3≠w6.heap.size:=(by omega);clear ho6 hb6)))
     all_goals go_wp2_with fail
     obtain⟨r0,r1,r2,hK,hS⟩:=box3 HGx.out (.slice A8 T.es.length n8) (.slice A9 T.ks.length n9) (.slice A10 c.length c10)
     have hBW:Below w.heap.size w (((w6.setCell ⟨w.heap.size+3,0,none⟩ (.slice A8 T.es.length n8)).setCell ⟨w.heap.size+3,1,none⟩ (.slice A9 T.ks.length n9)).setCell ⟨w.heap.size+3,2,none⟩ (.slice A10 c.length c10)):=(((hB5.trans (hby.out.mono (by omega))).setCell (by simp) _).setCell (by simp) _).setCell (by simp) _
     clear k0 k1 k2 z0 z1 z2
     generalize (((w6.setCell ⟨w.heap.size+3,0,none⟩ (.slice A8 T.es.length n8)).setCell ⟨w.heap.size+3,1,none⟩ (.slice A9 T.ks.length n9)).setCell ⟨w.heap.size+3,2,none⟩ (.slice A10 c.length c10))=W at *
     refine bodyPost_ret (v:=.tuple #[.agg #[.slice A8 T.es.length n8,.slice A9 T.ks.length n9,.slice A10 c.length c10],.int .i64 0]) (by simp[results,Tryz.results100,go_sem,r0,r1,r2]) rfl ⟨_,_,_,by rw[HE0.out],?_,?_,hBW⟩
     ·rw[HTX.out,if_pos trivial]
      exact Qs (fun b hb=>(hK b (by have:=hb.1;simp only[World.size_alloc]at this;omega)).trans (hby.out.block b hb.2)) (fun b hb=>⟨by have:=hb.1;simp only[World.size_alloc]at this;omega,by have:=hb.2;omega⟩) _ _ _ hrd5
     ·rw[HCX.out,if_pos trivial]
      refine (HO6.out.sla (by unfold Big;omega)).up (fun b hb=>hK b (by have:=hb.1;simp only[World.size_alloc,World.size_drew]at this;omega)) (fun b hb=>⟨by have:=hb.1;simp only[World.size_alloc,World.size_drew]at this;omega,by have:=hb.2.1;omega⟩) (fun _ _ _ h=>h)
    ·go_wp2_with fail
     obtain⟨r0,r1,r2,hK,hS⟩:=box3 HG6.out (.slice none 0 0) (.slice none 0 0) (.slice none 0 0)
     have hBW:Below w.heap.size w (((w5.setCell ⟨w.heap.size+3,0,none⟩ (.slice none 0 0)).setCell ⟨w.heap.size+3,1,none⟩ (.slice none 0 0)).setCell ⟨w.heap.size+3,2,none⟩ (.slice none 0 0)):=((hB5.setCell (by simp) _).setCell (by simp) _).setCell (by simp) _
     clear c0 c1 d0 e0 e1 e2 k0 k1 k2 z0 z1 z2
     generalize (((w5.setCell ⟨w.heap.size+3,0,none⟩ (.slice none 0 0)).setCell ⟨w.heap.size+3,1,none⟩ (.slice none 0 0)).setCell ⟨w.heap.size+3,2,none⟩ (.slice none 0 0))=W at *
     have q0:(W.alloc (.cells #[.slice A8 T.es.length n8,.slice A9 T.ks.length n9] 25)).cell? ⟨w.heap.size+1+1+1,0,none⟩=some (.slice none 0 0):=by rw[World.cell?_alloc_lt _ _ _ (by show w.heap.size+3<_;omega)];exact r0
     have q1:(W.alloc (.cells #[.slice A8 T.es.length n8,.slice A9 T.ks.length n9] 25)).cell? ⟨w.heap.size+1+1+1,1,none⟩=some (.slice none 0 0):=by rw[World.cell?_alloc_lt _ _ _ (by show w.heap.size+3<_;omega)];exact r1
     have q2:(W.alloc (.cells #[.slice A8 T.es.length n8,.slice A9 T.ks.length n9] 25)).cell? ⟨w.heap.size+1+1+1,2,none⟩=some (.slice none 0 0):=by rw[World.cell?_alloc_lt _ _ _ (by show w.heap.size+3<_;omega)];exact r2
     refine bodyPost_ret (v:=.tuple #[.agg #[.slice none 0 0,.slice none 0 0,.slice none 0 0],.int .i64 1]) (by simp[results,Tryz.results100,go_sem,q0,q1,q2]) rfl ⟨_,_,_,by rw[HE0.out],by rw[HTX.out,if_neg (by decide)];exact Qp _ _,by rw[HCX.out,if_neg (by decide)];exact SlA.nil,hBW.alloc (by omega) _⟩
    ·go_wp2_with fail
     obtain⟨r0,r1,r2,hK,hS⟩:=box3 HG6.out (.slice none 0 0) (.slice none 0 0) (.slice none 0 0)
     have hBW:Below w.heap.size w (((w5.setCell ⟨w.heap.size+3,0,none⟩ (.slice none 0 0)).setCell ⟨w.heap.size+3,1,none⟩ (.slice none 0 0)).setCell ⟨w.heap.size+3,2,none⟩ (.slice none 0 0)):=((hB5.setCell (by simp) _).setCell (by simp) _).setCell (by simp) _
     clear c0 c1 d0 e0 e1 e2 k0 k1 k2 z0 z1 z2
     generalize (((w5.setCell ⟨w.heap.size+3,0,none⟩ (.slice none 0 0)).setCell ⟨w.heap.size+3,1,none⟩ (.slice none 0 0)).setCell ⟨w.heap.size+3,2,none⟩ (.slice none 0 0))=W at *
     have q0:(W.alloc (.cells #[.slice A8 T.es.length n8,.slice A9 T.ks.length n9] 25)).cell? ⟨w.heap.size+1+1+1,0,none⟩=some (.slice none 0 0):=by rw[World.cell?_alloc_lt _ _ _ (by show w.heap.size+3<_;omega)];exact r0
     have q1:(W.alloc (.cells #[.slice A8 T.es.length n8,.slice A9 T.ks.length n9] 25)).cell? ⟨w.heap.size+1+1+1,1,none⟩=some (.slice none 0 0):=by rw[World.cell?_alloc_lt _ _ _ (by show w.heap.size+3<_;omega)];exact r1
     have q2:(W.alloc (.cells #[.slice A8 T.es.length n8,.slice A9 T.ks.length n9] 25)).cell? ⟨w.heap.size+1+1+1,2,none⟩=some (.slice none 0 0):=by rw[World.cell?_alloc_lt _ _ _ (by show w.heap.size+3<_;omega)];exact r2
     refine bodyPost_ret (v:=.tuple #[.agg #[.slice none 0 0,.slice none 0 0,.slice none 0 0],.int .i64 10]) (by simp[results,Tryz.results100,go_sem,q0,q1,q2]) rfl ⟨_,_,_,by rw[HE0.out],by rw[HTX.out,if_neg (by decide)];exact Qp _ _,by rw[HCX.out,if_neg (by decide)];exact SlA.nil,hBW.alloc (by omega) _⟩
 ·have HE0:Hid (updE t key D c=wrapE D key):=by unfold Hid updE;rw[hr,hq,kb,em];simp
  clear em
  clear hr hq kb
  go_wp2_with fail
  refine (YJ D key _ _ _ _ (HD.out _ (hB4.alloc (by omega) _)) (SlP.oneB (x:=key) (cs:=[.string key]) ⟨rfl,hkey⟩ rfl _ rfl (by simp)) (by omega)).mono ?_
  rintro e w5 ⟨v5,u5,rfl,hrd5,hb5⟩
  obtain⟨A8,n8,A9,n9,rfl,rfl⟩:=Ql hrd5
  clear c0 c1 d0 e0 e1 e2 k0 k1 k2 z0 z1 z2 HG6
  have hb5':=hid (hb4'.out.trans ((((Below.refl w4.heap.size w4).alloc (Nat.le_refl _) _).trans (hb5.mono (show w4.heap.size<=_ by simp))).mono hs4))
  obtain⟨hB5,hs5,g3,g4,g5,g6⟩:=HW.out _ hb5'.out
  have HG6:=hid g6
  have c0:w5.cell? ⟨w.heap.size,0,none⟩=some (.slice A3 t.es.length n3):=Qa (i:=0) g3
  have c1:w5.cell? ⟨w.heap.size,1,none⟩=some (.slice A4 t.ks.length n4):=Qa (i:=1) g3
  have d0:w5.cell? ⟨w.heap.size+1,0,none⟩=some (.string key):=Qa (i:=0) g4
  have e0:w5.cell? ⟨w.heap.size+2,0,none⟩=some (.slice A5 D.es.length n5):=Qa (i:=0) g5
  have e1:w5.cell? ⟨w.heap.size+2,1,none⟩=some (.slice A6 D.ks.length n6):=Qa (i:=1) g5
  have e2:w5.cell? ⟨w.heap.size+2,2,none⟩=some (.slice A7 c.length n7):=Qa (i:=2) g5
  have k0:w5.cell? ⟨w.heap.size+3,0,none⟩=some (.slice none 0 0):=Qa (i:=0) g6
  have k1:w5.cell? ⟨w.heap.size+3,1,none⟩=some (.slice none 0 0):=Qa (i:=1) g6
  have k2:w5.cell? ⟨w.heap.size+3,2,none⟩=some (.slice none 0 0):=Qa (i:=2) g6
  have z0:=Qb (i:=0) g6
  have z1:=Qb (i:=1) g6
  have z2:=Qb (i:=2) g6
  clear g3 g4 g5 g6
  have hs5':=hb5.size
  simp only[World.size_alloc]at hs5'
  clear hb5
  have hlt3:w.heap.size+3<w5.heap.size:=by omega
  have hne3:w.heap.size+3≠w5.heap.size:=by omega
  have hlt2:w.heap.size+2<w5.heap.size:=by omega
  have hne2:w.heap.size+2≠w5.heap.size:=by omega
  have hw3:wrapE D key=0∨wrapE D key=1∨wrapE D key=10:=by unfold wrapE;split<;>(try split)<;>simp
  have HTX:Hid (updT t key D c=if wrapE D key=0 then wrapT D key else .mk [] []):=by unfold Hid updT;rw[HE0.out]
  have HCX:Hid (updC t key D c=if wrapE D key=0 then c else []):=by unfold Hid updC;rw[HE0.out]
  rw[HE0.out]
  generalize wrapE D key=K at *
  generalize wrapT D key=T at *
  rcases hw3 with rfl|rfl|rfl
  ·have HX:Hid (∀ w',Below (w5.heap.size+1) (w5.alloc (.cells #[.slice A8 T.es.length n8,.slice A9 T.ks.length n9] 25)) w'->Below w5.heap.size w5 w'/\(w'.cell? ⟨w.heap.size+2,2,none⟩=some (.slice A7 c.length n7)/\w'.cell? ⟨w5.heap.size,0,none⟩=some (.slice A8 T.es.length n8)/\w'.cell? ⟨w5.heap.size,1,none⟩=some (.slice A9 T.ks.length n9))):=fun w' hb=>by
    have hB:Below w5.heap.size w5 w':=((Below.refl _ w5).alloc (Nat.le_refl _) _).trans (hb.mono (by omega))
    refine⟨hB,(hB.cell (p:=⟨w.heap.size+2,2,none⟩) (by show w.heap.size+2<_;omega)).trans e2,?_,?_⟩
    ·rw[hb.cell (p:=⟨w5.heap.size,0,none⟩) (by simp),World.cell?_alloc_new];rfl
    ·rw[hb.cell (p:=⟨w5.heap.size,1,none⟩) (by simp),World.cell?_alloc_new];rfl
   clear c0 c1 d0 e0 e1 k0 k1 k2 z0 z1 z2
   go_upto_region 9 with (fail)
   go_region_held3 (fun w'=>w'.cell? ⟨w.heap.size+2,2,none⟩=some (.slice A7 c.length n7)/\w'.cell? ⟨w5.heap.size,0,none⟩=some (.slice A8 T.es.length n8)/\w'.cell? ⟨w5.heap.size,1,none⟩=some (.slice A9 T.ks.length n9))
    (first|go_keep|exact (HX.out _ hbx.out).2|exact⟨Q1 (by simp) (HX.out _ hbx.out).2.1,Q1 (by show w.heap.size+3≠_;omega) (HX.out _ hbx.out).2.2.1,Q1 (by show w.heap.size+3≠_;omega) (HX.out _ hbx.out).2.2.2⟩)
    (first|(go_at_call 37;go_loud ((refine (YU c _ _ (HC.out _ ((hB5.alloc (by omega) _).drew)) (by unfold Few;omega)).mono ?_);rintro e w6 ⟨v6,rfl,ho6,hb6⟩;obtain⟨A10,c10,hv6⟩:=ho6.shape;subst hv6;have HO6:=hid ho6;have hbx:Hid (Below (w5.heap.size+1) (w5.alloc (.cells #[.slice A8 T.es.length n8,.slice A9 T.ks.length n9] 25)) w6):=(((Below.refl (w5.heap.size+1) (w5.alloc (.cells #[.slice A8 T.es.length n8,.slice A9 T.ks.length n9] 25))).drew).trans (hb6.mono (by simp)));have hby:=hid (HX.out _ hbx.out).1;have hs6:w5.heap.size+1<=w6.heap.size:=(by have:=hbx.out.size;simpa using this);have HGx:=hid ((hby.out.block (w.heap.size+3) (by omega)).trans HG6.out);have k0:w6.cell? ⟨w.heap.size+3,0,none⟩=some (.slice none 0 0):=Qa (i:=0) HGx.out;have k1:w6.cell? ⟨w.heap.size+3,1,none⟩=some (.slice none 0 0):=Qa (i:=1) HGx.out;have k2:w6.cell? ⟨w.heap.size+3,2,none⟩=some (.slice none 0 0):=Qa (i:=2) HGx.out;have z0:=Qb (i:=0) HGx.out;have z1:=Qb (i:=1) HGx.out;have z2:=Qb (i:=2) HGx.out;have hlt6:w.heap.size+3<w6.heap.size:=(by omega);have hne6:w.heap.size+3≠w6.heap.size:=(by omega);clear ho6 hb6)))
   all_goals go_wp2_with fail
   obtain⟨r0,r1,r2,hK,hS⟩:=box3 HGx.out (.slice A8 T.es.length n8) (.slice A9 T.ks.length n9) (.slice A10 c.length c10)
   have hBW:Below w.heap.size w (((w6.setCell ⟨w.heap.size+3,0,none⟩ (.slice A8 T.es.length n8)).setCell ⟨w.heap.size+3,1,none⟩ (.slice A9 T.ks.length n9)).setCell ⟨w.heap.size+3,2,none⟩ (.slice A10 c.length c10)):=(((hB5.trans (hby.out.mono (by omega))).setCell (by simp) _).setCell (by simp) _).setCell (by simp) _
   clear k0 k1 k2 z0 z1 z2
   generalize (((w6.setCell ⟨w.heap.size+3,0,none⟩ (.slice A8 T.es.length n8)).setCell ⟨w.heap.size+3,1,none⟩ (.slice A9 T.ks.length n9)).setCell ⟨w.heap.size+3,2,none⟩ (.slice A10 c.length c10))=W at *
   refine bodyPost_ret (v:=.tuple #[.agg #[.slice A8 T.es.length n8,.slice A9 T.ks.length n9,.slice A10 c.length c10],.int .i64 0]) (by simp[results,Tryz.results100,go_sem,r0,r1,r2]) rfl ⟨_,_,_,by rw[HE0.out],?_,?_,hBW⟩
   ·rw[HTX.out,if_pos trivial]
    exact Qs (fun b hb=>(hK b (by have:=hb.1;simp only[World.size_alloc]at this;omega)).trans (hby.out.block b hb.2)) (fun b hb=>⟨by have:=hb.1;simp only[World.size_alloc]at this;omega,by have:=hb.2;omega⟩) _ _ _ hrd5
   ·rw[HCX.out,if_pos trivial]
    refine (HO6.out.sla (by unfold Big;omega)).up (fun b hb=>hK b (by have:=hb.1;simp only[World.size_alloc,World.size_drew]at this;omega)) (fun b hb=>⟨by have:=hb.1;simp only[World.size_alloc,World.size_drew]at this;omega,by have:=hb.2.1;omega⟩) (fun _ _ _ h=>h)
  ·go_wp2_with fail
   obtain⟨r0,r1,r2,hK,hS⟩:=box3 HG6.out (.slice none 0 0) (.slice none 0 0) (.slice none 0 0)
   have hBW:Below w.heap.size w (((w5.setCell ⟨w.heap.size+3,0,none⟩ (.slice none 0 0)).setCell ⟨w.heap.size+3,1,none⟩ (.slice none 0 0)).setCell ⟨w.heap.size+3,2,none⟩ (.slice none 0 0)):=((hB5.setCell (by simp) _).setCell (by simp) _).setCell (by simp) _
   clear c0 c1 d0 e0 e1 e2 k0 k1 k2 z0 z1 z2
   generalize (((w5.setCell ⟨w.heap.size+3,0,none⟩ (.slice none 0 0)).setCell ⟨w.heap.size+3,1,none⟩ (.slice none 0 0)).setCell ⟨w.heap.size+3,2,none⟩ (.slice none 0 0))=W at *
   have q0:(W.alloc (.cells #[.slice A8 T.es.length n8,.slice A9 T.ks.length n9] 25)).cell? ⟨w.heap.size+1+1+1,0,none⟩=some (.slice none 0 0):=by rw[World.cell?_alloc_lt _ _ _ (by show w.heap.size+3<_;omega)];exact r0
   have q1:(W.alloc (.cells #[.slice A8 T.es.length n8,.slice A9 T.ks.length n9] 25)).cell? ⟨w.heap.size+1+1+1,1,none⟩=some (.slice none 0 0):=by rw[World.cell?_alloc_lt _ _ _ (by show w.heap.size+3<_;omega)];exact r1
   have q2:(W.alloc (.cells #[.slice A8 T.es.length n8,.slice A9 T.ks.length n9] 25)).cell? ⟨w.heap.size+1+1+1,2,none⟩=some (.slice none 0 0):=by rw[World.cell?_alloc_lt _ _ _ (by show w.heap.size+3<_;omega)];exact r2
   refine bodyPost_ret (v:=.tuple #[.agg #[.slice none 0 0,.slice none 0 0,.slice none 0 0],.int .i64 1]) (by simp[results,Tryz.results100,go_sem,q0,q1,q2]) rfl ⟨_,_,_,by rw[HE0.out],by rw[HTX.out,if_neg (by decide)];exact Qp _ _,by rw[HCX.out,if_neg (by decide)];exact SlA.nil,hBW.alloc (by omega) _⟩
  ·go_wp2_with fail
   obtain⟨r0,r1,r2,hK,hS⟩:=box3 HG6.out (.slice none 0 0) (.slice none 0 0) (.slice none 0 0)
   have hBW:Below w.heap.size w (((w5.setCell ⟨w.heap.size+3,0,none⟩ (.slice none 0 0)).setCell ⟨w.heap.size+3,1,none⟩ (.slice none 0 0)).setCell ⟨w.heap.size+3,2,none⟩ (.slice none 0 0)):=((hB5.setCell (by simp) _).setCell (by simp) _).setCell (by simp) _
   clear c0 c1 d0 e0 e1 e2 k0 k1 k2 z0 z1 z2
   generalize (((w5.setCell ⟨w.heap.size+3,0,none⟩ (.slice none 0 0)).setCell ⟨w.heap.size+3,1,none⟩ (.slice none 0 0)).setCell ⟨w.heap.size+3,2,none⟩ (.slice none 0 0))=W at *
   have q0:(W.alloc (.cells #[.slice A8 T.es.length n8,.slice A9 T.ks.length n9] 25)).cell? ⟨w.heap.size+1+1+1,0,none⟩=some (.slice none 0 0):=by rw[World.cell?_alloc_lt _ _ _ (by show w.heap.size+3<_;omega)];exact r0
   have q1:(W.alloc (.cells #[.slice A8 T.es.length n8,.slice A9 T.ks.length n9] 25)).cell? ⟨w.heap.size+1+1+1,1,none⟩=some (.slice none 0 0):=by rw[World.cell?_alloc_lt _ _ _ (by show w.heap.size+3<_;omega)];exact r1
   have q2:(W.alloc (.cells #[.slice A8 T.es.length n8,.slice A9 T.ks.length n9] 25)).cell? ⟨w.heap.size+1+1+1,2,none⟩=some (.slice none 0 0):=by rw[World.cell?_alloc_lt _ _ _ (by show w.heap.size+3<_;omega)];exact r2
   refine bodyPost_ret (v:=.tuple #[.agg #[.slice none 0 0,.slice none 0 0,.slice none 0 0],.int .i64 10]) (by simp[results,Tryz.results100,go_sem,q0,q1,q2]) rfl ⟨_,_,_,by rw[HE0.out],by rw[HTX.out,if_neg (by decide)];exact Qp _ _,by rw[HCX.out,if_neg (by decide)];exact SlA.nil,hBW.alloc (by omega) _⟩
def enT (t:Tr)(d:Dt):Tr:=if chkT t d then .mk [⟨d.dc,d.n,ByteArray.empty,0⟩] [] else .mk [] []
theorem EnE.mk' {d:Dt}(hd:d.Ok):EnE (⟨d.dc,d.n,ByteArray.empty,0⟩:En) [.int .i64 d.dc,.int .i64 d.n,.string ByteArray.empty,.int .i64 0]:=⟨rfl,En.Ok.mk' hd ⟨by decide,by decide⟩⟩
theorem XJ {w3:World}{b:Nat}{x0 x1 x2:Value}{a:Addr}{v:Value}{o:Obj}(hne:b≠a.block)(hlt:a.block<w3.heap.size)(h:w3.cell? a=some v) :
  ((((w3.setCell ⟨b,0,none⟩ x0).setCell ⟨b,1,none⟩ x1).setCell ⟨b,2,none⟩ x2).alloc o).cell? a=some v:=by
 rw[World.cell?_alloc_lt _ _ _ (by simpa using hlt),World.cell?_setCell_far _ _ _ _ hne,World.cell?_setCell_far _ _ _ _ hne,World.cell?_setCell_far _ _ _ _ hne];exact h
theorem qZ2 (t:Tr)(d:Dt)(ve vk:Value)(w:World)(h:t.rd w w.heap.size ve vk)(hN:t.sz<=4000)(hd:d.Ok) :
  Calls Tryz.prog 138 #[.agg #[ve,vk],.agg #[.int .i64 d.dc,.int .i64 d.n]] w (RetCE w (enT t d) (disC t d) (chkI t d)):=by
 have HC:Hid (∀ w',Below w.heap.size w w'->t.rd w' w'.heap.size ve vk):=fun w' hb=>Qi hb hb.size _ _ _ h
 obtain⟨A3,n3,A4,n4,rfl,rfl⟩:=Qj h
 have hb0:=(((Below.refl w.heap.size w).alloc (Nat.le_refl _) (.cells #[.slice A3 t.es.length n3,.slice A4 t.ks.length n4] 25)).alloc (by simp) (.cells #[.int .i64 d.dc,.int .i64 d.n] 78)).alloc (by simp;omega) (.cells #[.slice none 0 0,.slice none 0 0,.slice none 0 0] 29)
 clear h
 go_enter Tryz.func138,Tryz.ntmps138
 go_wp2_with fail
 refine (Zm t d _ _ _ (HC.out _ hb0) (by omega)).mono ?_
 rintro e w1 ⟨rfl,hb1⟩
 have hs1:=hb1.size
 simp only[World.size_alloc]at hs1
 have hB1:Below w.heap.size w w1:=hb0.trans (hb1.mono (by simp;omega))
 have c0:w1.cell? ⟨w.heap.size,0,none⟩=some (.slice A3 t.es.length n3):=by
  rw[hb1.cell (p:=⟨w.heap.size,0,none⟩) (by simp;omega)]
  rw[World.cell?_alloc_lt _ _ _ (by simp;omega),World.cell?_alloc_lt _ _ _ (by simp)];simp
 have c1:w1.cell? ⟨w.heap.size,1,none⟩=some (.slice A4 t.ks.length n4):=by
  rw[hb1.cell (p:=⟨w.heap.size,1,none⟩) (by simp;omega)]
  rw[World.cell?_alloc_lt _ _ _ (by simp;omega),World.cell?_alloc_lt _ _ _ (by simp)];simp
 have d0:w1.cell? ⟨w.heap.size+1,0,none⟩=some (.int .i64 d.dc):=by rw[hb1.cell (p:=⟨w.heap.size+1,0,none⟩) (by simp),World.cell?_alloc_lt _ _ _ (by simp)];simp
 have d1:w1.cell? ⟨w.heap.size+1,1,none⟩=some (.int .i64 d.n):=by rw[hb1.cell (p:=⟨w.heap.size+1,1,none⟩) (by simp),World.cell?_alloc_lt _ _ _ (by simp)];simp
 have hg:w1.heap[w.heap.size+2]?=some (.cells #[.slice none 0 0,.slice none 0 0,.slice none 0 0] 29 (0,0)):=(hb1.block (w.heap.size+2) (by simp)).trans (Qd (by simp))
 have HG:=hid hg
 have k0:w1.cell? ⟨w.heap.size+2,0,none⟩=some (.slice none 0 0):=Qa (i:=0) hg
 have k1:w1.cell? ⟨w.heap.size+2,1,none⟩=some (.slice none 0 0):=Qa (i:=1) hg
 have k2:w1.cell? ⟨w.heap.size+2,2,none⟩=some (.slice none 0 0):=Qa (i:=2) hg
 have z0:=Qb (i:=0) hg
 have z1:=Qb (i:=1) hg
 have z2:=Qb (i:=2) hg
 clear hg hb1
 cases hc:chkT t d
 ·have HE:Hid (chkI t d=1):=by unfold Hid chkI;rw[hc];rfl
  have HD:Hid (disC t d=[]):=by unfold Hid disC;rw[hc];rfl
  have HT:Hid (enT t d=.mk [] []):=by unfold Hid enT;rw[hc];rfl
  rw[HE.out]
  clear hc
  go_wp2_with fail
  obtain⟨r0,r1,r2,hK,hS⟩:=box3 HG.out (.slice none 0 0) (.slice none 0 0) (.slice none 0 0)
  have hBW:=((hB1.setCell (p:=⟨w.heap.size+2,0,none⟩) (by simp) (.slice none 0 0)).setCell (p:=⟨w.heap.size+2,1,none⟩) (by simp) (.slice none 0 0)).setCell (p:=⟨w.heap.size+2,2,none⟩) (by simp) (.slice none 0 0)
  refine bodyPost_ret (v:=.tuple #[.agg #[.slice none 0 0,.slice none 0 0,.slice none 0 0],.int .i64 1]) (by simp[results,Tryz.results138,go_sem,r0,r1,r2]) rfl ⟨_,_,_,by rw[HE.out],?_,?_,hBW⟩
  ·rw[HT.out];exact Qp _ _
  ·rw[HD.out];exact SlA.nil
 ·have HE:Hid (chkI t d=0):=by unfold Hid chkI;rw[hc];rfl
  have HD:Hid (disC t d=seenC t d):=by unfold Hid disC;rw[hc];rfl
  have HT:Hid (enT t d=.mk [⟨d.dc,d.n,ByteArray.empty,0⟩] []):=by unfold Hid enT;rw[hc];rfl
  have HDR:=hid (Zn hc)
  have HTR:=hid (Yj hc)
  have hsc:=Yk t d
  have HK:Hid (∀ w',Below w1.heap.size w1 w'->w'.cell? ⟨w.heap.size+1,0,none⟩=some (.int .i64 d.dc)/\w'.cell? ⟨w.heap.size+1,1,none⟩=some (.int .i64 d.n)/\w'.cell? ⟨w.heap.size,0,none⟩=some (.slice A3 t.es.length n3)/\w'.cell? ⟨w.heap.size,1,none⟩=some (.slice A4 t.ks.length n4)):=fun w' hb=>
   ⟨(hb.cell (p:=⟨w.heap.size+1,0,none⟩) (by show w.heap.size+1<_;omega)).trans d0,(hb.cell (p:=⟨w.heap.size+1,1,none⟩) (by show w.heap.size+1<_;omega)).trans d1,(hb.cell (p:=⟨w.heap.size,0,none⟩) (by show w.heap.size<_;omega)).trans c0,(hb.cell (p:=⟨w.heap.size,1,none⟩) (by show w.heap.size<_;omega)).trans c1⟩
  rw[HE.out]
  have hne5:w.heap.size+1+1≠w.heap.size:=by omega
  have hne6:w.heap.size≠w.heap.size+1+1:=by omega
  clear hc k0 k1 k2 z0 z1 z2
  go_upto_region 4 with (fail)
  go_region_held3 (fun w'=>w'.cell? ⟨w.heap.size+1,0,none⟩=some (.int .i64 d.dc)/\w'.cell? ⟨w.heap.size+1,1,none⟩=some (.int .i64 d.n)/\w'.cell? ⟨w.heap.size,0,none⟩=some (.slice A3 t.es.length n3)/\w'.cell? ⟨w.heap.size,1,none⟩=some (.slice A4 t.ks.length n4))
   (first|go_keep|exact HK.out _ hbx.out|exact⟨XJ (by simp) (by show w.heap.size+1<_;omega) (HK.out _ hbx.out).1,XJ (by simp) (by show w.heap.size+1<_;omega) (HK.out _ hbx.out).2.1,XJ (by show w.heap.size+1+1≠w.heap.size;omega) (by show w.heap.size<_;omega) (HK.out _ hbx.out).2.2.1,XJ (by show w.heap.size+1+1≠w.heap.size;omega) (by show w.heap.size<_;omega) (HK.out _ hbx.out).2.2.2⟩)
   (first|(go_at_call 170;go_loud ((refine (qYa t d _ _ _ (HC.out _ (by first|exact hB1.drew|exact (hB1.alloc (by omega) _).drew|exact hB1.drew.alloc (by show w.heap.size<=w1.heap.size;omega) _)) hN HTR.out HDR.out hd).mono ?_);rintro e w3 ⟨v3,rfl,ho3,hb3⟩;obtain⟨A5,c5,hv3⟩:=ho3.shape;subst hv3;have HO3:=hid ho3;have HB3:=hid hb3;have hbx:Hid (Below w1.heap.size w1 w3):=(by first|exact ((Below.refl _ w1).drew).trans hb3|exact (((Below.refl _ w1).alloc (Nat.le_refl _) _).drew).trans (hb3.mono (Nat.le_of_lt (by simp)))|exact (((Below.refl _ w1).drew).alloc (Nat.le_refl _) _).trans (hb3.mono (Nat.le_of_lt (by simp))));have hs3:=hbx.out.size;have HG3:=hid ((hbx.out.block (w.heap.size+2) (by omega)).trans HG.out);have k0:w3.cell? ⟨w.heap.size+2,0,none⟩=some (.slice none 0 0):=Qa (i:=0) HG3.out;have k1:w3.cell? ⟨w.heap.size+2,1,none⟩=some (.slice none 0 0):=Qa (i:=1) HG3.out;have k2:w3.cell? ⟨w.heap.size+2,2,none⟩=some (.slice none 0 0):=Qa (i:=2) HG3.out;have z0:=Qb (i:=0) HG3.out;have z1:=Qb (i:=1) HG3.out;have z2:=Qb (i:=2) HG3.out;have hlt3:w.heap.size+2<w3.heap.size:=(by omega);have hne3:w.heap.size+2≠w3.heap.size:=(by omega);clear ho3 hb3)))
  all_goals go_wp2_with fail
  ·have hE3:w3.heap[w1.heap.size]?=some (.cells #[.int .i64 d.dc,.int .i64 d.n,.string ⟨#[]⟩,.int .i64 0] 80 (0,0)):=(HB3.out.block w1.heap.size (by simp)).trans (Qd rfl)
   obtain⟨r0,r1,r2,hK,hS⟩:=box3 HG3.out (.slice (some ⟨w1.heap.size,0,none⟩) 1 1) (.slice none 0 0) (.slice A5 (seenC t d).length c5)
   have hBW:Below w.heap.size w (((w3.setCell ⟨w.heap.size+2,0,none⟩ (.slice (some ⟨w1.heap.size,0,none⟩) 1 1)).setCell ⟨w.heap.size+2,1,none⟩ (.slice none 0 0)).setCell ⟨w.heap.size+2,2,none⟩ (.slice A5 (seenC t d).length c5)):=(((hB1.trans (hbx.out.mono (by omega))).setCell (by simp) _).setCell (by simp) _).setCell (by simp) _
   clear k0 k1 k2 z0 z1 z2
   generalize (((w3.setCell ⟨w.heap.size+2,0,none⟩ (.slice (some ⟨w1.heap.size,0,none⟩) 1 1)).setCell ⟨w.heap.size+2,1,none⟩ (.slice none 0 0)).setCell ⟨w.heap.size+2,2,none⟩ (.slice A5 (seenC t d).length c5))=W at *
   refine bodyPost_ret (v:=.tuple #[.agg #[.slice (some ⟨w1.heap.size,0,none⟩) 1 1,.slice none 0 0,.slice A5 (seenC t d).length c5],.int .i64 0]) (by simp[results,Tryz.results138,go_sem,r0,r1,r2]) rfl ⟨_,_,_,by rw[HE.out],?_,?_,hBW⟩
   ·rw[HT.out,Zh]
    refine⟨?_,SlA.nil⟩
    exact SlA.one (x:=(⟨d.dc,d.n,ByteArray.empty,0⟩:En)) (cs:=[.int .i64 d.dc,.int .i64 d.n,.string ByteArray.empty,.int .i64 0]) (e:=80) (z:=(0,0)) ⟨rfl,En.Ok.mk' hd ⟨by decide,by decide⟩⟩ rfl ((hK _ (by omega)).trans hE3) ⟨by omega,by have:=HB3.out.size;simp at this;omega⟩
   ·rw[HD.out]
    refine (HO3.out.sla (by unfold Big;omega)).up (fun b hb=>hK b (by have:=hb.1;simp only[World.size_alloc,World.size_drew]at this;omega)) (fun b hb=>⟨by have:=hb.1;simp only[World.size_alloc,World.size_drew]at this;omega,by have:=hb.2.1;omega⟩) (fun _ _ _ h=>h)
  ·obtain⟨r0,r1,r2,hK,hS⟩:=box3 HG3.out (.slice (some ⟨w3.heap.size,0,none⟩) 1 1) (.slice none 0 0) (.slice A5 (seenC t d).length c5)
   have hBW:Below w.heap.size w (((w3.setCell ⟨w.heap.size+2,0,none⟩ (.slice (some ⟨w3.heap.size,0,none⟩) 1 1)).setCell ⟨w.heap.size+2,1,none⟩ (.slice none 0 0)).setCell ⟨w.heap.size+2,2,none⟩ (.slice A5 (seenC t d).length c5)):=(((hB1.trans (hbx.out.mono (by omega))).setCell (by simp) _).setCell (by simp) _).setCell (by simp) _
   clear k0 k1 k2 z0 z1 z2
   generalize (((w3.setCell ⟨w.heap.size+2,0,none⟩ (.slice (some ⟨w3.heap.size,0,none⟩) 1 1)).setCell ⟨w.heap.size+2,1,none⟩ (.slice none 0 0)).setCell ⟨w.heap.size+2,2,none⟩ (.slice A5 (seenC t d).length c5))=W at *
   have q0:(W.alloc (.cells #[.int .i64 d.dc,.int .i64 d.n,.string ⟨#[]⟩,.int .i64 0] 80)).cell? ⟨w.heap.size+1+1,0,none⟩=some (.slice (some ⟨w3.heap.size,0,none⟩) 1 1):=by rw[World.cell?_alloc_lt _ _ _ (by show w.heap.size+2<_;omega)];exact r0
   have q1:(W.alloc (.cells #[.int .i64 d.dc,.int .i64 d.n,.string ⟨#[]⟩,.int .i64 0] 80)).cell? ⟨w.heap.size+1+1,1,none⟩=some (.slice none 0 0):=by rw[World.cell?_alloc_lt _ _ _ (by show w.heap.size+2<_;omega)];exact r1
   have q2:(W.alloc (.cells #[.int .i64 d.dc,.int .i64 d.n,.string ⟨#[]⟩,.int .i64 0] 80)).cell? ⟨w.heap.size+1+1,2,none⟩=some (.slice A5 (seenC t d).length c5):=by rw[World.cell?_alloc_lt _ _ _ (by show w.heap.size+2<_;omega)];exact r2
   refine bodyPost_ret (v:=.tuple #[.agg #[.slice (some ⟨w3.heap.size,0,none⟩) 1 1,.slice none 0 0,.slice A5 (seenC t d).length c5],.int .i64 0]) (by simp[results,Tryz.results138,go_sem,q0,q1,q2]) rfl ⟨_,_,_,by rw[HE.out],?_,?_,hBW.alloc (by omega) _⟩
   ·rw[HT.out,Zh]
    refine⟨?_,SlA.nil⟩
    exact SlA.one (x:=(⟨d.dc,d.n,ByteArray.empty,0⟩:En)) (cs:=[.int .i64 d.dc,.int .i64 d.n,.string ByteArray.empty,.int .i64 0]) (e:=80) (z:=(0,0)) ⟨rfl,En.Ok.mk' hd ⟨by decide,by decide⟩⟩ rfl (Qd hS.symm) ⟨by omega,by rw[World.size_alloc];omega⟩
   ·rw[HD.out]
    refine (HO3.out.sla (by unfold Big;omega)).up (fun b hb=>(Qg (by have:=hb.2.1;omega)).trans (hK b (by have:=hb.1;simp only[World.size_drew]at this;omega))) (fun b hb=>⟨by have:=hb.1;simp only[World.size_drew]at this;omega,by rw[World.size_alloc];have:=hb.2.1;omega⟩) (fun _ _ _ h=>h)
theorem qKb (t:Tr)(d:Dt)(ve vk:Value)(w:World)(h:t.rd w w.heap.size ve vk)(hN:t.sz<=4000)(hd:d.Ok) :
  Calls Tryz.prog 144 #[.agg #[ve,vk],.agg #[.int .i64 d.dc,.int .i64 d.n]] w (RetCE w (.mk [] []) (disC t d) (chkI t d)):=by
 have hdl:=Zb t
 have h2:=QL t.dots
 have h3:=QL [d]
 simp only[List.length_singleton]at h3
 have HC:Hid (∀ w',Below w.heap.size w w'->t.rd w' w'.heap.size ve vk):=fun w' hb=>Qi hb hb.size _ _ _ h
 obtain⟨A3,n3,A4,n4,rfl,rfl⟩:=Qj h
 have hb0:=(((Below.refl w.heap.size w).alloc (Nat.le_refl _) (.cells #[.slice A3 t.es.length n3,.slice A4 t.ks.length n4] 25)).alloc (by simp) (.cells #[.int .i64 d.dc,.int .i64 d.n] 78)).alloc (by simp;omega) (.cells #[.slice none 0 0,.slice none 0 0,.slice none 0 0] 29)
 clear h
 go_enter Tryz.func144,Tryz.ntmps144
 go_wp2_with fail
 refine (Zm t d _ _ _ (HC.out _ hb0) (by omega)).mono ?_
 rintro e w1 ⟨rfl,hb1⟩
 have hs1:=hb1.size
 simp only[World.size_alloc]at hs1
 have hB1:Below w.heap.size w w1:=hb0.trans (hb1.mono (by simp;omega))
 have c0:w1.cell? ⟨w.heap.size,0,none⟩=some (.slice A3 t.es.length n3):=by
  rw[hb1.cell (p:=⟨w.heap.size,0,none⟩) (by simp;omega)]
  rw[World.cell?_alloc_lt _ _ _ (by simp;omega),World.cell?_alloc_lt _ _ _ (by simp)];simp
 have c1:w1.cell? ⟨w.heap.size,1,none⟩=some (.slice A4 t.ks.length n4):=by
  rw[hb1.cell (p:=⟨w.heap.size,1,none⟩) (by simp;omega)]
  rw[World.cell?_alloc_lt _ _ _ (by simp;omega),World.cell?_alloc_lt _ _ _ (by simp)];simp
 have d0:w1.cell? ⟨w.heap.size+1,0,none⟩=some (.int .i64 d.dc):=by rw[hb1.cell (p:=⟨w.heap.size+1,0,none⟩) (by simp),World.cell?_alloc_lt _ _ _ (by simp)];simp
 have d1:w1.cell? ⟨w.heap.size+1,1,none⟩=some (.int .i64 d.n):=by rw[hb1.cell (p:=⟨w.heap.size+1,1,none⟩) (by simp),World.cell?_alloc_lt _ _ _ (by simp)];simp
 have hg:w1.heap[w.heap.size+2]?=some (.cells #[.slice none 0 0,.slice none 0 0,.slice none 0 0] 29 (0,0)):=(hb1.block (w.heap.size+2) (by simp)).trans (Qd (by simp))
 have HG:=hid hg
 have k0:w1.cell? ⟨w.heap.size+2,0,none⟩=some (.slice none 0 0):=Qa (i:=0) hg
 have k1:w1.cell? ⟨w.heap.size+2,1,none⟩=some (.slice none 0 0):=Qa (i:=1) hg
 have k2:w1.cell? ⟨w.heap.size+2,2,none⟩=some (.slice none 0 0):=Qa (i:=2) hg
 have z0:=Qb (i:=0) hg
 have z1:=Qb (i:=1) hg
 have z2:=Qb (i:=2) hg
 clear hg hb1
 cases hc:chkT t d
 ·have HE:Hid (chkI t d=1):=by unfold Hid chkI;rw[hc];rfl
  have HD:Hid (disC t d=[]):=by unfold Hid disC;rw[hc];rfl
  rw[HE.out]
  clear hc
  go_wp2_with fail
  obtain⟨r0,r1,r2,hK,hS⟩:=box3 HG.out (.slice none 0 0) (.slice none 0 0) (.slice none 0 0)
  have hBW:=((hB1.setCell (p:=⟨w.heap.size+2,0,none⟩) (by simp) (.slice none 0 0)).setCell (p:=⟨w.heap.size+2,1,none⟩) (by simp) (.slice none 0 0)).setCell (p:=⟨w.heap.size+2,2,none⟩) (by simp) (.slice none 0 0)
  refine bodyPost_ret (v:=.tuple #[.agg #[.slice none 0 0,.slice none 0 0,.slice none 0 0],.int .i64 1]) (by simp[results,Tryz.results144,go_sem,r0,r1,r2]) rfl ⟨_,_,_,by rw[HE.out],?_,?_,hBW⟩
  ·exact Qp _ _
  ·rw[HD.out];exact SlA.nil
 ·have HE:Hid (chkI t d=0):=by unfold Hid chkI;rw[hc];rfl
  have HD:Hid (disC t d=ctxBy (ctxOf t.dots) (ctxOf [d]) 0):=by unfold Hid disC;rw[hc];rfl
  have hdr:=Zn hc
  have htr:=Yj hc
  have HAA:=hid (Qq (Q0 t 5 htr))
  have HAB:=hid (Qq (ZR hdr))
  have HDR:=hid (ZR hdr)
  have HDO:=hid hd
  rw[HE.out]
  clear hc
  go_wp2_with fail
  refine (YG t _ _ w1 (HC.out _ hB1) (by omega)).mono ?_
  rintro e w2 ⟨v1,n1,rfl,hn1,ho1,hb2⟩
  rw[htr]at ho1 hn1
  obtain rfl:n1=0:=hn1
  rw[if_pos rfl]at ho1
  obtain⟨A1,m1,rfl⟩:=ho1.shape
  have hs2:=hb2.size
  have hB2:Below w.heap.size w w2:=hB1.trans (hb2.mono (by omega))
  have HO1:=hid ho1
  have e0:w2.cell? ⟨w.heap.size+1,0,none⟩=some (.int .i64 d.dc):=(hb2.cell (p:=⟨w.heap.size+1,0,none⟩) (by show w.heap.size+1<_;omega)).trans d0
  have e1:w2.cell? ⟨w.heap.size+1,1,none⟩=some (.int .i64 d.n):=(hb2.cell (p:=⟨w.heap.size+1,1,none⟩) (by show w.heap.size+1<_;omega)).trans d1
  clear ho1 hdr htr k0 k1 k2 z0 z1 z2 c0 c1 d0 d1
  go_wp2_with fail
  refine (X9 [d] _ _ (SlP.oneB (E:=DtE) (x:=d) (cs:=[.int .i64 d.dc,.int .i64 d.n]) ⟨rfl,HDO.out⟩ rfl _ rfl (by simp)) HDR.out (by simp)).mono ?_
  rintro e w3 ⟨v2,rfl,ho2,hb3⟩
  obtain⟨A2,m2,rfl⟩:=ho2.shape
  have hs3:=hb3.size
  simp only[World.size_alloc]at hs3
  have hb3':Below w2.heap.size w2 w3:=((Below.refl _ w2).alloc (Nat.le_refl _) _).trans (hb3.mono (by simp))
  have H1:=hid ((HO1.out.grow hb3').sl (by unfold Big;omega))
  have H2:=hid (ho2.sl (by unfold Big;omega))
  clear ho2 hb3 e0 e1
  go_wp2_with fail
  refine (YW (ctxOf t.dots) (ctxOf [d]) _ _ w3 H1.out H2.out HAA.out HAB.out (by omega) (by omega)).mono ?_
  rintro e w4 ⟨v3,rfl,ho3,hb4⟩
  obtain⟨A5,c5,rfl⟩:=ho3.shape
  have hs4:=hb4.size
  have hB4:Below w.heap.size w w4:=(hB2.trans (hb3'.mono (by omega))).trans (hb4.mono (by omega))
  have HG2:=hid ((hb4.block (w.heap.size+2) (by omega)).trans ((hb3'.block (w.heap.size+2) (by omega)).trans ((hb2.block (w.heap.size+2) (by omega)).trans HG.out)))
  have k0:w4.cell? ⟨w.heap.size+2,0,none⟩=some (.slice none 0 0):=Qa (i:=0) HG2.out
  have k1:w4.cell? ⟨w.heap.size+2,1,none⟩=some (.slice none 0 0):=Qa (i:=1) HG2.out
  have k2:w4.cell? ⟨w.heap.size+2,2,none⟩=some (.slice none 0 0):=Qa (i:=2) HG2.out
  have z0:=Qb (i:=0) HG2.out
  have z1:=Qb (i:=1) HG2.out
  have z2:=Qb (i:=2) HG2.out
  have HO3:=hid ho3
  have hsc:=YI (ctxOf t.dots) (ctxOf [d]) 0
  clear ho3
  go_wp2_with fail
  obtain⟨r0,r1,r2,hK,hS⟩:=box3 HG2.out (.slice none 0 0) (.slice none 0 0) (.slice A5 (ctxBy (ctxOf t.dots) (ctxOf [d]) 0).length c5)
  have hBW:=((hB4.setCell (p:=⟨w.heap.size+2,0,none⟩) (by simp) (.slice none 0 0)).setCell (p:=⟨w.heap.size+2,1,none⟩) (by simp) (.slice none 0 0)).setCell (p:=⟨w.heap.size+2,2,none⟩) (by simp) (.slice A5 (ctxBy (ctxOf t.dots) (ctxOf [d]) 0).length c5)
  refine bodyPost_ret (v:=.tuple #[.agg #[.slice none 0 0,.slice none 0 0,.slice A5 (ctxBy (ctxOf t.dots) (ctxOf [d]) 0).length c5],.int .i64 0]) (by simp[results,Tryz.results144,go_sem,r0,r1,r2]) rfl ⟨_,_,_,by rw[HE.out],Qp _ _,?_,hBW⟩
  rw[HD.out]
  refine (HO3.out.sla (by unfold Big;omega)).up (fun b hb=>hK b (by have:=hb.1;omega)) (fun b hb=>⟨by have:=hb.1;omega,by rw[hS];exact hb.2.1⟩) (fun _ _ _ h=>h)
theorem Q7 {t:Tr}(h:t.right 5=true):∀ p:List ByteArray,(getK t p).right 5=true:=fun p=>by
 unfold getK
 induction p generalizing t with
 |nil=>exact h
 |cons k p ih=>exact ih (Vd h k)
theorem XK {t:Tr}(h:t.right 5=true){x:Dt}:∀ p:List ByteArray,x∈(getK t p).dots->x∈t.dots:=fun p=>by
 unfold getK
 induction p generalizing t with
 |nil=>exact id
 |cons k p ih=>exact fun hx=>zQx (ZL _ _ h) (ih (Vd h k) hx)
theorem VD (t:Tr)(p q:List ByteArray):getK t (p++q)=getK (getK t p) q:=by unfold getK;rw[List.foldl_append]
theorem Q4 (t:Tr):∀ p:List ByteArray,(getK t p).sz<=t.sz:=fun p=>by
 unfold getK
 induction p generalizing t with
 |nil=>exact Nat.le_refl _
 |cons k p ih=>exact Nat.le_trans (ih (kidT t k)) (YE t k)
theorem XL {t:Tr}(h:t.right 5=true)(p:List ByteArray):tgetT t p=getK t p:=by unfold tgetT;rw[h];rfl
theorem qZ3 {t:Tr}{d:Dt}(h:t.right 5=true)(hd:d.right=true)(hn:d∉t.dots):chkT t d=true:=by
 unfold chkT
 have h1:hasC (ctxOf t.dots) d=false:=by
  cases h2:hasC (ctxOf t.dots) d
  ·rfl
  ·exact absurd ((YM h).1 h2) hn
 rw[h,hd,h1];rfl
theorem zXt {t:Tr}{d:Dt}(h:chkT t d=true)(p:List ByteArray):chkT (getK t p) d=true:=by
 obtain⟨g1,g2,g3⟩:=Zu h
 exact qZ3 (Q7 g1 p) g2 fun hx=>g3 (XK g1 p hx)
theorem ZS {e:En}:∀ {q:List ByteArray}{x:Lf},x∈(pathT q e).lvs []↔x=(q,e)
 |[],x=>by simp[pathT,Tr.lvs,Tr.lvsL]
 |k :: q,x=>by
  rw[pathT,Vo]
  constructor
  ·rintro (⟨_,h⟩|⟨k',t,qs,hm,h1,h2⟩)
   ·cases h
   ·simp at hm
    obtain⟨rfl,rfl⟩:=hm
    have h3:=ZS.1 h2
    obtain⟨p,y⟩:=x
    simp only[Prod.mk.injEq]at h3
    simp only at h1
    rw[h1,h3.1,h3.2]
  ·rintro rfl
   exact .inr ⟨k,pathT q e,q,by simp,rfl,ZS.2 rfl⟩
theorem qYq {e:En}:∀ q:List ByteArray,(pathT q e).empty=false
 |[]=>rfl
 |_ :: _=>rfl
theorem YN {e:En}:∀ {q:List ByteArray},(∀ k∈q,keyB k=true)->(pathT q e).Ord
 |[],_=>Ord.mk' (List.pairwise_singleton _ _) .nil fun _ _ h=>by cases h
 |k :: q,h=>Ord.mk' .nil (List.pairwise_singleton _ _) fun k' t hm=>by
  simp at hm
  obtain⟨rfl,rfl⟩:=hm
  exact⟨qZg (h _ (by simp)),qYq q,YN fun x hx=>h x (by simp[hx])⟩
theorem qQt {e:En}:∀ q:List ByteArray,(pathT q e).dep=q.length+1
 |[]=>by simp[pathT,Tr.dep,Tr.depL]
 |k :: q=>by rw[pathT,Tr.dep,Tr.depL,Tr.depL,qQt q];simp
theorem qYr {e:En}:∀ q:List ByteArray,(pathT q e).sz=q.length+1
 |[]=>by simp[pathT,Tr.sz,Tr.szL]
 |k :: q=>by rw[pathT,Tr.sz,Tr.szL,Tr.szL,qYr q];simp;omega
theorem qYs {e:En}{q:List ByteArray}{c:List Sp}(hq:∀ k∈q,keyB k=true)(hl:q.length<=4)(he:e.right=true)(hc:Qm c=true)(hh:hasC c e.dot=true):CaOk (pathT q e) c:=
 ⟨YN hq,fun x hx=>by rw[ZS.1 hx];exact⟨by simp only;omega,hq,he⟩,hc,fun x hx=>by rw[ZS.1 hx];exact hh⟩
theorem qZ4 {e:En}{q:List ByteArray}(hq:∀ k∈q,keyB k=true):QC [(q,e)]=pathT q e:=
 Vp (YN hq) ⟨fun x hx k hk=>by simp at hx;subst hx;exact qZg (hq k hk),fun x hx y hy _ _=>by simp at hx hy;rw[hx,hy]⟩ fun x=>by rw[ZS,List.mem_singleton]
theorem zQy {e:En}{q:List ByteArray}(hq:∀ k∈q,keyB k=true)(p:List ByteArray)(d:Dt):stE (pathT q e) p d=if p=q/\d=e.dot then some e else none:=by
 split
 ·rename_i h
  obtain⟨rfl,rfl⟩:=h
  exact (Qy (YN hq)).2 ⟨ZS.2 rfl,rfl⟩
 ·rename_i h
  refine (Jz (YN hq)).2 fun y hy hd=>h ?_
  have:=ZS.1 hy
  cases this
  exact⟨rfl,hd.symm⟩
def leafX (u:Tr)(o:Opr)(d:Dt):Tr×List Sp×Int:=
 if o.act=1 then (enT u d,disC u d,chkI u d) else if o.act=2 then (.mk [] [],disC u d,chkI u d) else if o.act=3 then (addT u o.s d,addC u o.s d,addE u o.s d)
 else if o.act=4 then (.mk [] [],delC u o.s d,sckI u o.s d) else if o.act=5 then (incT u o.n d,incC u o.n d,incE u o.n d) else if o.act=6 then (wrtT u o.s d,wrtC u o.s d,wrtE u o.s d)
 else (.mk [] [],disC u d,chkI u d)
def updX (t:Tr)(p:List ByteArray)(i:Nat)(x:Tr×List Sp×Int):Tr×List Sp×Int:=
 (updT (tgetT t (p.take i)) ((p[i]?).getD ByteArray.empty) x.1 x.2.1,updC (tgetT t (p.take i)) ((p[i]?).getD ByteArray.empty) x.1 x.2.1,updE (tgetT t (p.take i)) ((p[i]?).getD ByteArray.empty) x.1 x.2.1)
def Zy (t:Tr)(p:List ByteArray):Nat->Tr×List Sp×Int->Tr×List Sp×Int
 |0,x=>x
 |i+1,x=>if x.2.2=0 then Zy t p i (updX t p i x) else x
theorem Y2 {t:Tr}{p:List ByteArray}{x:Tr×List Sp×Int}(h:x.2.2≠0):∀ i,Zy t p i x=x
 |0=>rfl
 |i+1=>by rw[Zy,if_neg h]
theorem Yn {t:Tr}{p tl:List ByteArray}{e:En}{c:List Sp}(hr:t.right 5=true)(hp:∀ k∈p,keyB k=true)(ht:∀ k∈tl,keyB k=true)(hl:p.length+tl.length<=4)(he:e.right=true)(hc:Qm c=true)(hh:hasC c e.dot=true) :
  ∀ i,i<=p.length->(if (List.range i).any (fullAt t p) then (Zy t p i (pathT (p.drop i++tl) e,c,0)).2.2=4 else Zy t p i (pathT (p.drop i++tl) e,c,0)=(pathT (p++tl) e,c,0))
 |0,_=>by simp[Zy]
 |i+1,hi=>by
  have hlt:i<p.length:=by omega
  have hx:=List.getElem?_eq_getElem hlt
  have hmem:=List.mem_of_getElem? hx
  have hq:∀ k∈p.drop (i+1)++tl,keyB k=true:=fun k hk=>by
   rcases List.mem_append.1 hk with hk|hk
   ·exact hp k (List.mem_of_mem_drop hk)
   ·exact ht k hk
  have hql:(p.drop (i+1)++tl).length<=3:=by rw[List.length_append,List.length_drop];omega
  have hok:=qYs (c:=c) hq (by omega) he hc hh
  have hDr:(pathT (p.drop (i+1)++tl) e).right 5=true:=(YL hok.ord).2 hok.leaf
  have hkey:=hp _ hmem
  have hem:empB (pathT (p.drop (i+1)++tl) e).es.length (pathT (p.drop (i+1)++tl) e).ks.length=false:=by rw[Jc,qYq]
  have hwE:wrapE (pathT (p.drop (i+1)++tl) e) p[i]=0:=by
   unfold wrapE
   rw[hDr,hkey,hem,qQt]
   have:¬5<(p.drop (i+1)++tl).length+1+1:=by omega
   simp only[Bool.not_true,Bool.or_self,Bool.false_eq_true,if_false,Bool.not_false,Bool.true_and,decide_eq_true_eq,this]
  have hwT:wrapT (pathT (p.drop (i+1)++tl) e) p[i]=pathT (p.drop i++tl) e:=by
   unfold wrapT
   rw[if_pos hwE,hem,if_neg (by simp),List.drop_eq_getElem_cons hlt,List.cons_append,pathT]
  have hUE:updE (tgetT t (p.take i)) p[i] (pathT (p.drop (i+1)++tl) e) c=if fullAt t p i then 4 else 0:=by
   unfold updE fullAt
   rw[XL hr,Q7 hr,Xe.2 hok,hkey,hem,hwE,hx]
   simp only[Bool.not_true,Bool.or_self,Bool.false_eq_true,if_false,Bool.not_false,Bool.true_and,Option.getD_some]
   rfl
  rw[List.range_succ,List.any_append]
  simp only[List.any_cons,List.any_nil,Bool.or_false]
  rw[Zy,if_pos rfl]
  cases hf:fullAt t p i
  ·have hUE0:updE (tgetT t (p.take i)) p[i] (pathT (p.drop (i+1)++tl) e) c=0:=by rw[hUE,hf];rfl
   have hX:updX t p i (pathT (p.drop (i+1)++tl) e,c,0)=(pathT (p.drop i++tl) e,c,0):=by
    unfold updX updT updC
    rw[hx]
    simp only[Option.getD_some]
    rw[hUE0,if_pos rfl,if_pos rfl,hwT]
   rw[hX,Bool.or_false]
   exact Yn hr hp ht hl he hc hh i (by omega)
  ·rw[Bool.or_true,if_pos rfl]
   have hX:(updX t p i (pathT (p.drop (i+1)++tl) e,c,0)).2.2=4:=by
    unfold updX
    rw[hx]
    simp only[Option.getD_some]
    rw[hUE,hf,if_pos rfl]
   rw[Y2 (by rw[hX];decide),hX]
theorem Yu {t:Tr}{p:List ByteArray}{c:List Sp}(hr:t.right 5=true)(hp:∀ k∈p,keyB k=true)(hc:Qm c=true):∀ i,i<=p.length->Zy t p i (.mk [] [],c,0)=(.mk [] [],c,0)
 |0,_=>rfl
 |i+1,hi=>by
  have hlt:i<p.length:=by omega
  have hx:=List.getElem?_eq_getElem hlt
  have hkey:=hp _ (List.mem_of_getElem? hx)
  have hok:CaOk (.mk [] []) c:=zZy hc
  have hDr:(Tr.mk [] []).right 5=true:=(YL hok.ord).2 hok.leaf
  have hem:empB (Tr.mk [] []).es.length (Tr.mk [] []).ks.length=true:=rfl
  have hwE:wrapE (.mk [] []) p[i]=0:=by unfold wrapE;rw[hDr,hkey,hem];rfl
  have hwT:wrapT (.mk [] []) p[i]=.mk [] []:=by unfold wrapT;rw[if_pos hwE,hem,if_pos rfl]
  have hUE:updE (tgetT t (p.take i)) p[i] (.mk [] []) c=0:=by
   unfold updE
   rw[XL hr,Q7 hr,Xe.2 hok,hkey,hem,hwE];rfl
  have hX:updX t p i (.mk [] [],c,0)=(.mk [] [],c,0):=by
   unfold updX updT updC
   rw[hx]
   simp only[Option.getD_some]
   rw[hUE,if_pos rfl,if_pos rfl,hwT]
  rw[Zy,if_pos rfl,hX]
  exact Yu hr hp hc i (by omega)
theorem XM {l:List Dt}(hr:∀ x∈l,x.right=true)(x:Dt):hasC (ctxOf l) x=decide (x∈l):=by
 rw[Bool.eq_iff_iff,decide_eq_true_eq]
 constructor
 ·intro h;rw[ZH hr (Y1 h)]at h;simpa using h
 ·intro h;rw[ZH hr (hr x h)];simpa using h
theorem Ve {u:Tr}{d:Dt}(hu:u.right 5=true)(hd:d.right=true):∀ x∈d :: u.dots,x.right=true:=fun x hx=>by
 rcases List.mem_cons.1 hx with rfl|hx
 ·exact hd
 ·exact QI hu x hx
theorem XN {u:Tr}{d:Dt}(hu:u.right 5=true)(hd:d.right=true):seenC u d=ctxOf (d :: u.dots):=
 qZz (qJ7 hu hd) (Qq (Ve hu hd)) fun x=>by
  rw[qWd hu hd,XM (Ve hu hd)]
  by_cases h1:x∈u.dots<;>by_cases h2:x=d<;>simp[h1,h2]
theorem qQu {t:Tr}{x:Dt}(h:x∈ownD t):x∈t.dots:=by
 unfold ownD at h
 obtain⟨e,he,rfl⟩:=List.mem_map.1 h
 exact (Z6 t _).2 ⟨[],e,Y7.2 he,rfl⟩
theorem qZ5 {k:ByteArray}(h:Q3 k=false):keyB k=true:=by
 unfold Q3 at h
 rw[Bool.or_eq_false_iff]at h
 obtain⟨h1,h2⟩:=h
 have h1:k.size<=30:=by simpa using h1
 have h3:kindB k≠0:=by simpa using h2
 have h4:1<=k.size:=by
  rcases Nat.eq_zero_or_pos k.size with h0|h0
  ·exfalso
   have:k.data.toList=[]:=by
    have h5:k.data=#[]:=Array.eq_empty_of_size_eq_zero h0
    rw[h5]
   exact h3 (by unfold kindB;rw[this])
  ·exact h0
 unfold keyB
 simp;omega
theorem QZ {p:List ByteArray}(h:pathI p=0):1<=p.length/\p.length<=3/\(∀ k∈p,Q3 k=false)/\p.dropLast.any noMap=false:=by
 unfold pathI at h
 split at h
 ·cases h
 ·rename_i h1
  split at h
  ·cases h
  ·rename_i h2
   have h3:p.any Q3=false:=by
    cases h4:p.any Q3
    ·rfl
    ·exact absurd (.inr (.inr h4)) h1
   exact⟨by omega,by omega,fun k hk=>by rw[List.any_eq_false]at h3;simpa using h3 k hk,by simpa using h2⟩
theorem ZT {p:List ByteArray}(h:1<=p.length):p[p.length-1]?=some (lastK p):=by
 unfold lastK
 rw[List.getElem?_eq_getElem (by omega)];rfl
structure OpOk (o:Opr):Prop where
 path:pathI o.path=0
 act:actB o.act (kindB (lastK o.path))=true
 txt:opTxt o=true
 num:opNum o=true
theorem op_ok {o:Opr}(h:opI o=0):OpOk o:=by
 unfold opI at h
 split at h
 ·rename_i h1;exact absurd h h1
 ·rename_i h1
  split at h
  ·cases h
  ·rename_i h2
   split at h
   ·rename_i h3
    rw[Bool.and_eq_true]at h3
    exact⟨by simpa using h1,by simpa using h2,h3.1,h3.2⟩
   ·cases h
theorem Kk {o:Opr}(h:OpOk o):o.act=1∨o.act=2∨o.act=3∨o.act=4∨o.act=5∨o.act=6∨o.act=7:=by
 have:=h.act
 unfold actB at this
 split at this
 ·omega
 ·split at this
  ·omega
  ·split at this
   ·omega
   ·split at this
    ·omega
    ·have:=of_decide_eq_true this;omega
theorem Jj {α:Type}{f g:α->Bool}:∀ {l:List α},(∀ x∈l,f x=g x)->l.any f=l.any g
 |[],_=>rfl
 |x :: l,h=>by rw[List.any_cons,List.any_cons,h x (by simp),Jj fun y hy=>h y (by simp[hy])]
theorem qKc (t:Tr)(p q:List ByteArray){j:Nat}(h:j<p.length):fullAt t (p++q) j=fullAt t p j:=by
 unfold fullAt
 rw[List.take_append_of_le_length (by omega),List.getElem?_append_left h]
theorem qWl (t:Tr)(p:List ByteArray)(s:ByteArray):fullP t (p++[s])=((List.range p.length).any (fullAt t p)||(decide (24<=(getK t p).ks.length)&&!hasK (getK t p) s)):=by
 unfold fullP
 rw[List.length_append,List.length_singleton,List.range_succ,List.any_append]
 simp only[List.any_cons,List.any_nil,Bool.or_false]
 congr 1
 ·exact Jj fun j hj=>qKc t p [s] (List.mem_range.1 hj)
 ·unfold fullAt
  rw[List.take_append_of_le_length (Nat.le_refl _),List.take_of_length_le (Nat.le_refl _),List.getElem?_append_right (Nat.le_refl _)]
  simp
theorem qQv {o:Opr}{d:Dt}(h:OpOk o)(hd:d.right=true):(entE o d).right=true:=by
 have hdot:(entE o d).dot=d:=rfl
 have h1:=h.num
 have h2:=h.txt
 have hc:=Kk h
 unfold En.right
 rw[hdot,hd]
 unfold entE
 unfold opNum at h1
 unfold opTxt at h2
 have hs:(if o.act=6 then o.s else ByteArray.empty).size<=30:=by
  split
  ·rename_i h6
   rw[if_neg (by omega),if_pos h6]at h2
   simpa using h2
  ·decide
 have hn:-1099511627776<=o.n/\o.n<=1099511627776:=by
  split at h1
  ·simpa using h1
  ·have:=of_decide_eq_true h1;omega
 simp;omega
theorem Jk {t:Tr}{o:Opr}(hr:t.right 5=true):∀ x∈seesD t o,x∈t.dots:=fun x hx=>by
 unfold seesD at hx
 split at hx
 ·exact XK hr _ hx
 ·split at hx
  ·cases hx
  ·split at hx
   ·exact XK hr _ (qQu hx)
   ·exact XK hr _ hx
theorem Kl {t:Tr}{o:Opr}{d:Dt}(hr:t.right 5=true)(hd:d.right=true):∀ x∈d :: seesD t o,x.right=true:=fun x hx=>by
 rcases List.mem_cons.1 hx with rfl|hx
 ·exact hd
 ·exact QI hr x (Jk hr x hx)
theorem XO {o:Opr}(h:OpOk o):(∀ k∈o.path,keyB k=true)/\(∀ k∈endP o,keyB k=true)/\(endP o).length<=4/\o.path.length+(if o.act=3 then [o.s] else []).length<=4:=by
 obtain⟨h1,h2,h3,_⟩:=QZ h.path
 have hk:∀ k∈o.path,keyB k=true:=fun k hk=>qZ5 (h3 k hk)
 have h4:=h.txt
 unfold opTxt at h4
 refine⟨hk,fun k hm=>?_,?_,?_⟩
 ·unfold endP at hm
  rcases List.mem_append.1 hm with hm|hm
  ·exact hk k hm
  ·split at hm
   ·rename_i h5
    rw[if_pos (.inl h5)]at h4
    simp at hm;subst hm;exact h4
   ·cases hm
 ·unfold endP;rw[List.length_append];split<;>simp<;>omega
 ·split<;>simp<;>omega
theorem qWm {u:Tr}{o:Opr}{d:Dt}(ha:o.act=1):leafX u o d=(enT u d,disC u d,chkI u d):=by simp[leafX,ha]
theorem qWn {u:Tr}{o:Opr}{d:Dt}(ha:o.act=2):leafX u o d=(.mk [] [],disC u d,chkI u d):=by simp[leafX,ha]
theorem qWo {u:Tr}{o:Opr}{d:Dt}(ha:o.act=3):leafX u o d=(addT u o.s d,addC u o.s d,addE u o.s d):=by simp[leafX,ha]
theorem qWp {u:Tr}{o:Opr}{d:Dt}(ha:o.act=4):leafX u o d=(.mk [] [],delC u o.s d,sckI u o.s d):=by simp[leafX,ha]
theorem qWq {u:Tr}{o:Opr}{d:Dt}(ha:o.act=5):leafX u o d=(incT u o.n d,incC u o.n d,incE u o.n d):=by simp[leafX,ha]
theorem qWr {u:Tr}{o:Opr}{d:Dt}(ha:o.act=6):leafX u o d=(wrtT u o.s d,wrtC u o.s d,wrtE u o.s d):=by simp[leafX,ha]
theorem zXu {u:Tr}{o:Opr}{d:Dt}(ha:o.act=7):leafX u o d=(.mk [] [],disC u d,chkI u d):=by simp[leafX,ha]
theorem Y3 {t:Tr}{o:Opr}(ha:o.act=1∨o.act=2∨o.act=7):seesD t o=(getK t o.path).dots:=by
 unfold seesD;rw[if_neg (by omega),if_neg (by omega),if_neg (by omega)]
theorem VE {t:Tr}{o:Opr}(ha:o.act=3∨o.act=4):seesD t o=(getK t (o.path++[o.s])).dots:=by unfold seesD;rw[if_pos ha]
theorem qYt {t:Tr}{o:Opr}(ha:o.act=5):seesD t o=[]:=by unfold seesD;rw[if_neg (by omega),if_pos ha]
theorem qYu {t:Tr}{o:Opr}(ha:o.act=6):seesD t o=ownD (getK t o.path):=by unfold seesD;rw[if_neg (by omega),if_neg (by omega),if_pos ha]
theorem zQz {t:Tr}{o:Opr}{d:Dt}(h:OpOk o)(hc:chkT t d=true) :
  if fullB t o then (Zy t o.path o.path.length (leafX (getK t o.path) o d)).2.2=4 else Zy t o.path o.path.length (leafX (getK t o.path) o d)=(if Qu o.act then pathT (endP o) (entE o d) else .mk [] [],ctxOf (d :: seesD t o),0):=by
 obtain⟨g1,g2,g3⟩:=Zu hc
 have hcu:=zXt hc o.path
 have hur:=Q7 g1 o.path
 obtain⟨k1,k2,k3,k4⟩:=XO h
 have he:=qQv (d:=d) h g2
 have hdot:(entE o d).dot=d:=rfl
 have hap:=Qq (Kl (o:=o) g1 g2)
 have hh:hasC (ctxOf (d :: seesD t o)) d=true:=by rw[XM (Kl g1 g2)];simp
 have hlen:(List.range o.path.length).any (fullAt t (o.path++[]))=(List.range o.path.length).any (fullAt t o.path):=by rw[List.append_nil]
 have hdrop:o.path.drop o.path.length=[]:=List.drop_length
 have hn:=h.num
 have htx:=h.txt
 unfold opNum at hn
 unfold opTxt at htx
 rcases Kk h with ha|ha|ha|ha|ha|ha|ha
 ·-- enable
  have hE:entE o d=⟨d.dc,d.n,ByteArray.empty,0⟩:=by unfold entE;rw[if_neg (by omega)];rw[if_neg (by omega)]at hn;rw[of_decide_eq_true hn]
  have hX:leafX (getK t o.path) o d=(pathT (o.path.drop o.path.length++[]) (entE o d),ctxOf (d :: seesD t o),0):=by
   rw[qWm ha,Y3 (.inl ha),hE,hdrop]
   unfold enT disC chkI
   rw[hcu,if_pos rfl,if_pos rfl,if_pos rfl,XN hur g2];rfl
  have hf:fullB t o=(List.range o.path.length).any (fullAt t o.path):=by unfold fullB Qu endP fullP;rw[if_neg (by omega),List.append_nil];simp[ha]
  have hend:endP o=o.path++[]:=by unfold endP;rw[if_neg (by omega)]
  rw[hX,hf,show Qu o.act=true by unfold Qu;simp[ha],if_pos rfl,hend]
  exact Yn g1 k1 (by simp) (by simp;have:=(QZ h.path).2.1;omega) he hap (by rw[hdot];exact hh) _ (Nat.le_refl _)
 ·-- disable
  have hX:leafX (getK t o.path) o d=(.mk [] [],ctxOf (d :: seesD t o),0):=by
   rw[qWn ha,Y3 (.inr (.inl ha))]
   unfold disC chkI
   rw[hcu,if_pos rfl,if_pos rfl,XN hur g2]
  have hf:fullB t o=false:=by unfold fullB Qu;simp[ha]
  rw[hX,hf,show Qu o.act=false by unfold Qu;simp[ha],Yu g1 k1 hap _ (Nat.le_refl _)];simp
 ·-- add
  rw[if_pos (.inl ha)]at htx
  have hE:entE o d=⟨d.dc,d.n,ByteArray.empty,0⟩:=by unfold entE;rw[if_neg (by omega)];rw[if_neg (by omega)]at hn;rw[of_decide_eq_true hn]
  have hsk:sckB (getK t o.path) o.s d=true:=by unfold sckB;rw[hcu,htx];rfl
  have hend:endP o=o.path++[o.s]:=by unfold endP;rw[if_pos ha]
  have hf:fullB t o=((List.range o.path.length).any (fullAt t o.path)||(decide (24<=(getK t o.path).ks.length)&&!hasK (getK t o.path) o.s)):=by
   unfold fullB Qu;rw[hend,qWl];simp[ha]
  have hgo:leafX (getK t o.path) o d=(addT (getK t o.path) o.s d,addC (getK t o.path) o.s d,addE (getK t o.path) o.s d):=qWo ha
  have haE:addE (getK t o.path) o.s d=if (decide (24<=(getK t o.path).ks.length)&&!hasK (getK t o.path) o.s)=true then 4 else 0:=by unfold addE;rw[hsk];rfl
  rw[hgo,hf]
  cases hfl:(decide (24<=(getK t o.path).ks.length)&&!hasK (getK t o.path) o.s)
  ·rw[hfl,if_neg (by simp)]at haE
   have hX:(addT (getK t o.path) o.s d,addC (getK t o.path) o.s d,addE (getK t o.path) o.s d)=(pathT (o.path.drop o.path.length++[o.s]) (entE o d),ctxOf (d :: seesD t o),0):=by
    have hks:kidT (getK t o.path) o.s=getK t (o.path++[o.s]):=by rw[VD];rfl
    rw[VE (.inl ha),hE,hdrop]
    unfold addT addC
    rw[haE,if_pos rfl,if_pos rfl,hks,XN (Q7 g1 _) g2];rfl
   rw[hX,Bool.or_false,show Qu o.act=true by unfold Qu;simp[ha],if_pos rfl,hend]
   exact Yn g1 k1 (fun k hk=>by simp at hk;subst hk;exact htx) (by simp;have:=(QZ h.path).2.1;omega) he hap (by rw[hdot];exact hh) _ (Nat.le_refl _)
  ·rw[hfl,if_pos rfl]at haE
   rw[Bool.or_true,if_pos rfl,Y2 (by rw[haE];exact (by decide:(4:Int)≠0)),haE]
 ·-- del
  rw[if_pos (.inr ha)]at htx
  have hsk:sckB (getK t o.path) o.s d=true:=by unfold sckB;rw[hcu,htx];rfl
  have hks:kidT (getK t o.path) o.s=getK t (o.path++[o.s]):=by rw[VD];rfl
  have hX:leafX (getK t o.path) o d=(.mk [] [],ctxOf (d :: seesD t o),0):=by
   rw[qWp ha,VE (.inr ha)]
   unfold delC sckI
   rw[hsk,if_pos rfl,if_pos rfl,hks,XN (Q7 g1 _) g2]
  have hf:fullB t o=false:=by unfold fullB Qu;simp[ha]
  rw[hX,hf,show Qu o.act=false by unfold Qu;simp[ha],Yu g1 k1 hap _ (Nat.le_refl _)];simp
 ·-- inc
  rw[if_pos ha]at hn
  have hn:=of_decide_eq_true hn
  have hE:entE o d=⟨d.dc,d.n,ByteArray.empty,o.n⟩:=by unfold entE;rw[if_neg (by omega)]
  have hend:endP o=o.path++[]:=by unfold endP;rw[if_neg (by omega)]
  have hf:fullB t o=((List.range o.path.length).any (fullAt t o.path)||decide (24<=(getK t o.path).es.length)):=by
   unfold fullB Qu fullP;rw[hend,List.append_nil];simp[ha]
  have hgo:leafX (getK t o.path) o d=(incT (getK t o.path) o.n d,incC (getK t o.path) o.n d,incE (getK t o.path) o.n d):=qWq ha
  have haE:incE (getK t o.path) o.n d=if 24<=(getK t o.path).es.length then 4 else 0:=by
   unfold incE
   rw[hcu,if_neg (by simp;omega)]
  rw[hgo,hf]
  cases hfl:decide (24<=(getK t o.path).es.length)
  ·rw[if_neg (of_decide_eq_false hfl)]at haE
   have hX:(incT (getK t o.path) o.n d,incC (getK t o.path) o.n d,incE (getK t o.path) o.n d)=(pathT (o.path.drop o.path.length++[]) (entE o d),ctxOf (d :: seesD t o),0):=by
    rw[qYt ha,hE,hdrop]
    unfold incT incC
    rw[haE,if_pos rfl,if_pos rfl];rfl
   rw[hX,Bool.or_false,show Qu o.act=true by unfold Qu;simp[ha],if_pos rfl,hend]
   exact Yn g1 k1 (by simp) (by simp;have:=(QZ h.path).2.1;omega) he hap (by rw[hdot];exact hh) _ (Nat.le_refl _)
  ·rw[if_pos (of_decide_eq_true hfl)]at haE
   rw[Bool.or_true,if_pos rfl,Y2 (by rw[haE];exact (by decide:(4:Int)≠0)),haE]
 ·-- write
  rw[if_neg (by omega),if_pos ha]at htx
  rw[if_neg (by omega)]at hn
  have hwb:wrtB (getK t o.path) o.s d=true:=by unfold wrtB;rw[hcu,htx];rfl
  have hE:entE o d=⟨d.dc,d.n,o.s,0⟩:=by unfold entE;rw[if_pos ha,of_decide_eq_true hn]
  have hX:leafX (getK t o.path) o d=(pathT (o.path.drop o.path.length++[]) (entE o d),ctxOf (d :: seesD t o),0):=by
   rw[qWr ha,qYu ha,hE,hdrop]
   unfold wrtT wrtC wrtE
   rw[hwb,if_pos rfl,if_pos rfl,if_pos rfl];rfl
  have hf:fullB t o=(List.range o.path.length).any (fullAt t o.path):=by unfold fullB Qu endP fullP;rw[if_neg (by omega),List.append_nil];simp[ha]
  have hend:endP o=o.path++[]:=by unfold endP;rw[if_neg (by omega)]
  rw[hX,hf,show Qu o.act=true by unfold Qu;simp[ha],if_pos rfl,hend]
  exact Yn g1 k1 (by simp) (by simp;have:=(QZ h.path).2.1;omega) he hap (by rw[hdot];exact hh) _ (Nat.le_refl _)
 ·-- reset
  have hX:leafX (getK t o.path) o d=(.mk [] [],ctxOf (d :: seesD t o),0):=by
   rw[zXu ha,Y3 (.inr (.inr ha))]
   unfold disC chkI
   rw[hcu,if_pos rfl,if_pos rfl,XN hur g2]
  have hf:fullB t o=false:=by unfold fullB Qu;simp[ha]
  rw[hX,hf,show Qu o.act=false by unfold Qu;simp[ha],Yu g1 k1 hap _ (Nat.le_refl _)];simp
def viewK (k:Int)(x:Tr):Vw:=⟨k,if k=1 then onB x else false,if k=3 then valT x else 0,if k=2 then Zp x else if k=4 then Z2 x else if k=5 then Yl x else []⟩
def readI (t:Tr)(p:List ByteArray):Int:=if !t.right 5 then 1 else pathI p
def vw0:Vw:=⟨0,false,0,[]⟩
def readV (t:Tr)(p:List ByteArray):Vw:=if readI t p=0 then viewK (kindB (lastK p)) (getK t p) else vw0
theorem ZD:∀ (p:List ByteArray){t:Tr},t.Ord->∀ {qs:List ByteArray}{e:En},((qs,e):Lf)∈(getK t p).lvs []↔((p++qs,e):Lf)∈t.lvs []
 |[],_,_,_,_=>Iff.rfl
 |k :: p,t,h,qs,e=>by
  show ((qs,e):Lf)∈(getK (kidT t k) p).lvs []↔_
  rw[ZD p (ZB h k),Xs h];rfl
theorem JA {t:Tr}(h:t.Ord):∀ p:List ByteArray,(getK t p).Ord:=fun p=>by
 unfold getK
 induction p generalizing t with
 |nil=>exact h
 |cons k p ih=>exact ih (ZB h k)
theorem YO {t:Tr}(h:t.Ord){p:List ByteArray}{x:Dt}:x∈(getK t p).dots↔∃ q e,((p++q,e):Lf)∈t.lvs []/\e.dot=x:=by
 rw[Z6]
 exact⟨fun ⟨q,e,h1,h2⟩=>⟨q,e,(ZD p h).1 h1,h2⟩,fun ⟨q,e,h1,h2⟩=>⟨q,e,(ZD p h).2 h1,h2⟩⟩
theorem qWt {t:Tr}(h:t.Ord){p:List ByteArray}{x:Dt}:x∈ownD (getK t p)↔∃ e,((p,e):Lf)∈t.lvs []/\e.dot=x:=by
 unfold ownD
 rw[List.mem_map]
 constructor
 ·rintro⟨e,h1,h2⟩
  have:=(ZD p h).1 (Y7.2 h1)
  rw[List.append_nil]at this
  exact⟨e,this,h2⟩
 ·rintro⟨e,h1,h2⟩
  exact⟨e,Y7.1 ((ZD p h).2 (by rw[List.append_nil];exact h1)),h2⟩
theorem qWu {t:Tr}(h:t.Ord){o:Opr}{x:Dt}(hx:x∈seesD t o):∃ q e,((o.path++q,e):Lf)∈t.lvs []/\e.dot=x:=by
 unfold seesD at hx
 split at hx
 ·obtain⟨q,e,h1,h2⟩:=(YO h).1 hx
  exact⟨o.s :: q,e,by rw[List.append_assoc]at h1;exact h1,h2⟩
 ·split at hx
  ·cases hx
  ·split at hx
   ·obtain⟨e,h1,h2⟩:=(qWt h).1 hx
    exact⟨[],e,by rw[List.append_nil];exact h1,h2⟩
   ·exact (YO h).1 hx
theorem qYv (t:Tr)(o:Opr):(seesD t o).length<=t.sz:=by
 have h1:=fun p=>Nat.le_trans (Zb (getK t p)) (Q4 t p)
 unfold seesD
 split
 ·exact h1 _
 ·split
  ·exact Nat.zero_le _
  ·split
   ·have h2:=es_sz (getK t o.path)
    have h3:=Q4 t o.path
    unfold ownD
    rw[List.length_map];omega
   ·exact h1 _
theorem Km {t:Tr}{o:Opr}{d:Dt}(h:appI t o d=0):t.right 5=true/\OpOk o/\chkT t d=true/\fullB t o=false:=by
 unfold appI at h
 split at h
 ·cases h
 ·rename_i h1
  split at h
  ·rename_i h2;exact absurd h h2
  ·rename_i h2
   split at h
   ·cases h
   ·rename_i h3
    split at h
    ·cases h
    ·rename_i h4
     exact⟨by simpa using h1,op_ok (by simpa using h2),by simpa using h3,by simpa using h4⟩
theorem QT {t:Tr}{o:Opr}{d:Dt}(h:appI t o d=0):CaOk (appT t o d) (appC t o d)/\(appT t o d).sz<=5:=by
 obtain⟨h1,h2,h3,_⟩:=Km h
 obtain⟨g1,g2,g3⟩:=Zu h3
 obtain⟨_,k2,k3,_⟩:=XO h2
 have hap:=Qq (Kl (o:=o) g1 g2)
 have hC:appC t o d=ctxOf (d :: seesD t o):=by unfold appC;rw[if_pos h]
 rw[hC]
 unfold appT
 cases he:Qu o.act
 ·rw[if_neg (by simp)]
  exact⟨zZy hap,by simp[Tr.sz,Tr.szL]⟩
 ·rw[if_pos ⟨h,rfl⟩]
  refine⟨qYs k2 k3 (qQv h2 g2) hap ?_,by rw[qYr];omega⟩
  show hasC (ctxOf (d :: seesD t o)) d=true
  rw[XM (Kl g1 g2)];simp
theorem Ko {t:Tr}{o:Opr}{d:Dt}(h:appI t o d=0)(x:Dt):hasC (appC t o d) x=decide (x=d∨x∈seesD t o):=by
 obtain⟨_,h2,h3,_⟩:=Km h
 obtain⟨g1,g2,g3⟩:=Zu h3
 unfold appC
 rw[if_pos h,XM (Kl g1 g2)]
 simp[List.mem_cons]
theorem zZ2 {t:Tr}{o:Opr}{d:Dt}(h:appI t o d=0)(p:List ByteArray)(x:Dt):stE (appT t o d) p x=if Qu o.act=true/\p=endP o/\x=d then some (entE o d) else none:=by
 obtain⟨_,h2,h3,_⟩:=Km h
 obtain⟨_,k2,_,_⟩:=XO h2
 unfold appT
 cases he:Qu o.act
 ·rw[if_neg (by simp),if_neg (by simp),zXq]
 ·rw[if_pos ⟨h,rfl⟩,zQy k2]
  have hd:(entE o d).dot=d:=rfl
  rw[hd]
  simp
theorem zXv (k:ByteArray):0<=kindB k/\kindB k<=5:=by
 unfold kindB
 split
 ·omega
 ·repeat' split
  all_goals omega
theorem qWv {p:List ByteArray}(h:pathI p=0):1<=kindB (lastK p)/\kindB (lastK p)<=5:=by
 obtain⟨h1,_,h3,_⟩:=QZ h
 have h4:=h3 _ (List.mem_of_getElem? (ZT h1))
 unfold Q3 at h4
 rw[Bool.or_eq_false_iff]at h4
 have h5:=of_decide_eq_false h4.2
 have h6:=zXv (lastK p)
 omega
def begB (p w:List ByteArray):Bool:=decide (p.take w.length=w)
def undoB (x e:Opr):Bool:=begB e.path x.path&&(decide (x.act=7)||(decide (e.path.length=x.path.length)&&(if x.act=1∨x.act=2 then decide (e.act=1) else if x.act=3∨x.act=4 then decide (e.act=3)&&decide (e.s=x.s) else if x.act=6 then decide (e.act=6) else false)))
theorem VF {p w:List ByteArray}:begB p w=true↔∃ q,p=w++q:=by
 unfold begB
 rw[decide_eq_true_eq]
 constructor
 ·intro h
  have h1:=List.take_append_drop w.length p
  rw[h]at h1
  exact⟨_,h1.symm⟩
 ·rintro⟨q,rfl⟩;simp
theorem qYw {p:List ByteArray}(h:pathI p=0){j:Nat}{k:ByteArray}(hj:p[j]?=some k)(hl:j+1<p.length):kindB k=5:=by
 have h1:=(QZ h).2.2.2
 rw[List.any_eq_false]at h1
 have h2:p.dropLast[j]?=some k:=by rw[List.dropLast_eq_take,List.getElem?_take,if_pos (by omega)];exact hj
 have h3:=h1 k (List.mem_of_getElem? h2)
 unfold noMap at h3
 simpa using h3
theorem XP {o:Opr}(h:OpOk o):(o.act=1∨o.act=2->kindB (lastK o.path)=1)/\(o.act=3∨o.act=4->kindB (lastK o.path)=2)/\(o.act=5->kindB (lastK o.path)=3)/\(o.act=6->kindB (lastK o.path)=4):=by
 have h1:=h.act
 unfold actB at h1
 refine⟨fun ha=>?_,fun ha=>?_,fun ha=>?_,fun ha=>?_⟩
 ·rw[if_pos ha]at h1;exact of_decide_eq_true h1
 ·rw[if_neg (by omega),if_pos ha]at h1;exact of_decide_eq_true h1
 ·rw[if_neg (by omega),if_neg (by omega),if_pos ha]at h1;exact of_decide_eq_true h1
 ·rw[if_neg (by omega),if_neg (by omega),if_neg (by omega),if_pos ha]at h1;exact of_decide_eq_true h1
theorem qYx {o:Opr}(h:OpOk o)(he:Qu o.act=true):(kindB (lastK o.path)=1->o.act=1)/\(kindB (lastK o.path)=2->o.act=3)/\(kindB (lastK o.path)=3->o.act=5)/\(kindB (lastK o.path)=4->o.act=6)/\kindB (lastK o.path)≠5:=by
 obtain⟨k1,k2,k3,k4⟩:=XP h
 have he:=of_decide_eq_true (show decide (o.act=1∨o.act=3∨o.act=5∨o.act=6)=true from he)
 rcases he with ha|ha|ha|ha
 ·have:=k1 (.inl ha);exact⟨fun _=>ha,fun h=>by omega,fun h=>by omega,fun h=>by omega,by omega⟩
 ·have:=k2 (.inl ha);exact⟨fun h=>by omega,fun _=>ha,fun h=>by omega,fun h=>by omega,by omega⟩
 ·have:=k3 ha;exact⟨fun h=>by omega,fun h=>by omega,fun _=>ha,fun h=>by omega,by omega⟩
 ·have:=k4 ha;exact⟨fun h=>by omega,fun h=>by omega,fun h=>by omega,fun _=>ha,by omega⟩
theorem VG {w:List ByteArray}{e:Opr}(hw:pathI w=0)(he:OpOk e){q:List ByteArray}(h:endP e=w++q):∃ r,e.path=w++r:=by
 have hp:=(QZ he.path).1
 by_cases hl:w.length<=e.path.length
 ·refine⟨e.path.drop w.length,?_⟩
  have h1:(endP e).take w.length=w:=by rw[h];simp
  unfold endP at h1
  rw[List.take_append_of_le_length hl]at h1
  have h2:=List.take_append_drop w.length e.path
  rw[h1]at h2
  exact h2.symm
 ·exfalso
  unfold endP at h
  split at h
  ·rename_i ha
   have hlen:=congrArg List.length h
   simp only[List.length_append,List.length_singleton]at hlen
   have h3:w[e.path.length-1]?=some (lastK e.path):=by
    have h4:(w++q)[e.path.length-1]?=some (lastK e.path):=by rw[←h,List.getElem?_append_left (by omega)];exact ZT hp
    rwa [List.getElem?_append_left (by omega)]at h4
   have h5:=qYw hw h3 (by omega)
   have h6:=(XP he).2.1 (.inl ha)
   omega
  ·have hlen:=congrArg List.length h
   simp only[List.length_append,List.append_nil]at hlen
   omega
theorem qWw {w:List ByteArray}{e:Opr}{r:List ByteArray}(h:e.path=w++r):∃ q,endP e=w++q:=⟨r++(if e.act=3 then [e.s] else []),by unfold endP;rw[h,List.append_assoc]⟩
theorem VH {w p:List ByteArray}(hw:1<=w.length)(hp:pathI p=0)(hk:kindB (lastK w)≠5){r:List ByteArray}(h:p=w++r):p=w:=by
 cases r with
 |nil=>rw[h,List.append_nil]
 |cons a r=>
  exfalso
  have h1:p[w.length-1]?=some (lastK w):=by rw[h,List.getElem?_append_left (by omega)];exact ZT hw
  exact hk (qYw hp h1 (by rw[h];simp;omega))
theorem zYv {o e:Opr}(ho:OpOk o)(he:OpOk e)(ha:o.act=7):(∃ q,endP e=o.path++q)↔undoB o e=true:=by
 have hu:undoB o e=begB e.path o.path:=by unfold undoB;simp[ha]
 rw[hu,VF]
 exact⟨fun ⟨q,h⟩=>VG ho.path he h,fun ⟨r,h⟩=>qWw h⟩
theorem qWx {o e:Opr}(ho:OpOk o)(he:OpOk e)(hent:Qu e.act=true)(ha:o.act=1∨o.act=2):(∃ q,endP e=o.path++q)↔undoB o e=true:=by
 have hu:undoB o e=(begB e.path o.path&&(decide (e.path.length=o.path.length)&&decide (e.act=1))):=by unfold undoB;rw[if_pos ha,decide_eq_false (show ¬o.act=7 by omega),Bool.false_or]
 rw[hu,Bool.and_eq_true,Bool.and_eq_true,VF,decide_eq_true_eq,decide_eq_true_eq]
 have hk:=(XP ho).1 ha
 constructor
 ·rintro⟨q,h⟩
  obtain⟨r,h1⟩:=VG ho.path he h
  have h2:=VH (QZ ho.path).1 he.path (by omega) h1
  exact⟨⟨r,h1⟩,by rw[h2],(qYx he hent).1 (by rw[h2];exact hk)⟩
 ·rintro⟨⟨r,h⟩,_⟩;exact qWw h
theorem qWy {o e:Opr}(ho:OpOk o)(he:OpOk e)(ha:o.act=3∨o.act=4):(∃ q,endP e=o.path++[o.s]++q)↔undoB o e=true:=by
 have hu:undoB o e=(begB e.path o.path&&(decide (e.path.length=o.path.length)&&(decide (e.act=3)&&decide (e.s=o.s)))):=by unfold undoB;rw[if_neg (by omega),if_pos ha,decide_eq_false (show ¬o.act=7 by omega),Bool.false_or]
 rw[hu,Bool.and_eq_true,Bool.and_eq_true,Bool.and_eq_true,VF,decide_eq_true_eq,decide_eq_true_eq,decide_eq_true_eq]
 have hk:=(XP ho).2.1 ha
 constructor
 ·rintro⟨q,h⟩
  rw[List.append_assoc]at h
  obtain⟨r,h1⟩:=VG ho.path he h
  have h2:=VH (QZ ho.path).1 he.path (by omega) h1
  refine⟨⟨r,h1⟩,by rw[h2],?_⟩
  unfold endP at h
  rw[h2]at h
  have h3:=List.append_cancel_left h
  split at h3
  ·rename_i h4;simp at h3;exact⟨h4,h3.1⟩
  ·simp at h3
 ·rintro⟨⟨r,h⟩,hl,h3,hs⟩
  have h4:r=[]:=by rw[h]at hl;simp at hl;exact hl
  rw[h4,List.append_nil]at h
  exact⟨[],by unfold endP;rw[h,if_pos h3,hs];simp⟩
theorem zYw {o e:Opr}(ha:o.act=5):undoB o e=false:=by
 unfold undoB;rw[if_neg (by omega),if_neg (by omega),if_neg (by omega),decide_eq_false (show ¬o.act=7 by omega)];simp
theorem zYx {o e:Opr}(ho:OpOk o)(he:OpOk e)(hent:Qu e.act=true)(ha:o.act=6):endP e=o.path↔undoB o e=true:=by
 have hu:undoB o e=(begB e.path o.path&&(decide (e.path.length=o.path.length)&&decide (e.act=6))):=by unfold undoB;rw[if_neg (by omega),if_neg (by omega),if_pos ha,decide_eq_false (show ¬o.act=7 by omega),Bool.false_or]
 rw[hu,Bool.and_eq_true,Bool.and_eq_true,VF,decide_eq_true_eq,decide_eq_true_eq]
 have hk:=(XP ho).2.2.2 ha
 constructor
 ·intro h
  obtain⟨r,h1⟩:=VG ho.path he (q:=[]) (by rw[List.append_nil];exact h)
  have h2:=VH (QZ ho.path).1 he.path (by omega) h1
  exact⟨⟨r,h1⟩,by rw[h2],(qYx he hent).2.2.2.1 (by rw[h2];exact hk)⟩
 ·rintro⟨⟨r,h⟩,hl,h6⟩
  have h4:r=[]:=by rw[h]at hl;simp at hl;exact hl
  rw[h4,List.append_nil]at h
  unfold endP;rw[if_neg (by omega),h,List.append_nil]
theorem qWz {t:Tr}(ht:t.Ord){o e:Opr}(ho:OpOk o)(he:OpOk e)(hent:Qu e.act=true){x:Dt}{y:En}(hx:((endP e,y):Lf)∈t.lvs [])(hd:y.dot=x)(hone:∀ p z,((p,z):Lf)∈t.lvs []->z.dot=x->p=endP e) :
  x∈seesD t o↔undoB o e=true:=by
 have hpre:∀ w:List ByteArray,x∈(getK t w).dots↔∃ q,endP e=w++q:=fun w=>by
  rw[YO ht]
  exact⟨fun ⟨q,z,h1,h2⟩=>⟨q,(hone _ _ h1 h2).symm⟩,fun ⟨q,h⟩=>⟨q,y,h▸hx,hd⟩⟩
 rcases Kk ho with ha|ha|ha|ha|ha|ha|ha
 ·rw[Y3 (.inl ha),hpre,qWx ho he hent (.inl ha)]
 ·rw[Y3 (.inr (.inl ha)),hpre,qWx ho he hent (.inr ha)]
 ·rw[VE (.inl ha),hpre,qWy ho he (.inl ha)]
 ·rw[VE (.inr ha),hpre,qWy ho he (.inr ha)]
 ·rw[qYt ha,zYw ha];simp
 ·rw[qYu ha,qWt ht,←zYx ho he hent ha]
  exact⟨fun ⟨z,h1,h2⟩=>(hone _ _ h1 h2).symm,fun h=>⟨y,h▸hx,hd⟩⟩
 ·rw[Y3 (.inr (.inr ha)),hpre,zYv ho he ha]
end Go.Proofs.YtbcoelggdikipaaGreat
