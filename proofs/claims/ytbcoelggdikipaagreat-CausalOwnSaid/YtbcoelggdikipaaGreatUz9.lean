/- What the laws need. No condition but those that each lemma states. -/
import Derived.Test.YtbcoelggdikipaaGreatUz7
import Derived.Test.YtbcoelggdikipaaGreatUz8
import Derived.Test.YtbcoelggdikipaaGreatUz2
set_option maxRecDepth 100000
set_option maxHeartbeats 8000000
set_option linter.unusedSimpArgs false
namespace Go.Proofs.YtbcoelggdikipaaGreat
open Go.RowKit
theorem VO (a:Tr)(ac:List Sp)(b:Tr)(bc:List Sp)(keys:List ByteArray)(w:World)(ve0 vk0 vc0 ve1 vk1 vc1 vl2:Value)(h0:a.rd w w.heap.size ve0 vk0)(hc0:SlP w w.heap.size 3 SpE vc0 ac)(h1:b.rd w w.heap.size ve1 vk1)(hc1:SlP w w.heap.size 3 SpE vc1 bc)(h2:SlP w w.heap.size 1 StE vl2 keys) :
  Calls Tryz.prog 4 #[.agg #[ve0,vk0,vc0],.agg #[ve1,vk1,vc1],vl2] w fun e w'=>e=.returned (.bool true)/\Below w.heap.size w w':=by
 have HC0:Hid (∀ w',Below w.heap.size w w'->a.rd w' w'.heap.size ve0 vk0):=fun w' hb=>Qi hb hb.size _ _ _ h0
 have HD0:Hid (∀ w',Below w.heap.size w w'->SlP w' w'.heap.size 3 SpE vc0 ac):=fun w' hb=>hc0.imp hb hb.size fun _ _ _ h=>h
 obtain⟨A0,n0,B0,m0,rfl,rfl⟩:=Qk h0
 obtain⟨D0,k0,rfl,_⟩:=hc0
 clear h0
 have HC1:Hid (∀ w',Below w.heap.size w w'->b.rd w' w'.heap.size ve1 vk1):=fun w' hb=>Qi hb hb.size _ _ _ h1
 have HD1:Hid (∀ w',Below w.heap.size w w'->SlP w' w'.heap.size 3 SpE vc1 bc):=fun w' hb=>hc1.imp hb hb.size fun _ _ _ h=>h
 obtain⟨A1,n1,B1,m1,rfl,rfl⟩:=Qk h1
 obtain⟨D1,k1,rfl,_⟩:=hc1
 clear h1
 have HC2:Hid (∀ w',Below w.heap.size w w'->SlP w' w'.heap.size 1 StE vl2 keys):=fun w' hb=>h2.imp hb hb.size fun _ _ _ h=>h
 obtain⟨A2,n2,rfl,_⟩:=h2
 have HX0:Hid (∀ W,Below (w.heap.size+2) ((w.alloc (.cells #[.slice A0 a.es.length n0,.slice B0 a.ks.length m0,.slice D0 ac.length k0] 29)).alloc (.cells #[.slice A1 b.es.length n1,.slice B1 b.ks.length m1,.slice D1 bc.length k1] 29)) W->(Below w.heap.size w W/\w.heap.size+2<=(W).heap.size/\a.rd W (W).heap.size (.slice A0 a.es.length n0) (.slice B0 a.ks.length m0)/\SlP W (W).heap.size 3 SpE (.slice D0 ac.length k0) ac/\b.rd W (W).heap.size (.slice A1 b.es.length n1) (.slice B1 b.ks.length m1)/\SlP W (W).heap.size 3 SpE (.slice D1 bc.length k1) bc/\SlP W (W).heap.size 1 StE (.slice A2 keys.length n2) keys/\(W).cell? ⟨w.heap.size,0,none⟩=some (.slice A0 a.es.length n0)/\(W).cell? ⟨w.heap.size,1,none⟩=some (.slice B0 a.ks.length m0)/\(W).cell? ⟨w.heap.size,2,none⟩=some (.slice D0 ac.length k0)/\(W).cell? ⟨(w.heap.size+1),0,none⟩=some (.slice A1 b.es.length n1)/\(W).cell? ⟨(w.heap.size+1),1,none⟩=some (.slice B1 b.ks.length m1)/\(W).cell? ⟨(w.heap.size+1),2,none⟩=some (.slice D1 bc.length k1))):=fun W hW=>by
  have g0:W.heap[w.heap.size]?=some (.cells #[.slice A0 a.es.length n0,.slice B0 a.ks.length m0,.slice D0 ac.length k0] 29 (0,0)):=(hW.block _ (by omega)).trans ((Qh (by simp<;>omega)).trans (Qf rfl))
  have g1:W.heap[(w.heap.size+1)]?=some (.cells #[.slice A1 b.es.length n1,.slice B1 b.ks.length m1,.slice D1 bc.length k1] 29 (0,0)):=(hW.block _ (by omega)).trans (Qf (by simp))
  have hB:Below w.heap.size w W:=(((Below.refl _ w).alloc (Nat.le_refl _) _).alloc (by simp<;>omega) _).trans (hW.mono (by omega))
  exact⟨hB,by have:=hW.size;simpa using this,HC0.out _ hB,HD0.out _ hB,HC1.out _ hB,HD1.out _ hB,HC2.out _ hB,Qa (i:=0) g0,Qa (i:=1) g0,Qa (i:=2) g0,Qa (i:=0) g1,Qa (i:=1) g1,Qa (i:=2) g1⟩
 have hnb1:w.heap.size+1≠w.heap.size:=by omega
 go_enter Tryz.func4,Tryz.ntmps4
 obtain⟨SM,HSM⟩:∃ q:Bool,Hid (([(a,ac),(b,bc)]:List Kn).all (fun x=>sml9 x.1 x.2 40)=q):=⟨_,rfl⟩
 obtain⟨RM,HRM⟩:∃ q:Bool,Hid (([(a,ac),(b,bc)]:List Kn).all (fun x=>caR x.1 x.2)=q):=⟨_,rfl⟩
 go_wp2_with fail
 obtain⟨hB,hs,rt0,rc0,rt1,rc1,rl2,c00,c01,c02,c10,c11,c12⟩:=HX0.out _ (Below.refl _ _)
 refine (ZF _).mono ?_
 rintro e w1 ⟨rfl,hb⟩
 have hbk1:Hid (Below (w.heap.size+2) ((w.alloc (.cells #[.slice A0 a.es.length n0,.slice B0 a.ks.length m0,.slice D0 ac.length k0] 29)).alloc (.cells #[.slice A1 b.es.length n1,.slice B1 b.ks.length m1,.slice D1 bc.length k1] 29)) w1):=hid (hb.mono (by first|omega|(simp;done)|(simp;omega)))
 clear hb
 clear hB hs rt0 rc0 rt1 rc1 rl2 c00 c01 c02 c10 c11 c12
 obtain⟨hB,hs,rt0,rc0,rt1,rc1,rl2,c00,c01,c02,c10,c11,c12⟩:=HX0.out _ hbk1.out
 go_wp2_with fail
 have hsl_le:(w.heap.size+2)<=(w1).heap.size:=(by first|omega|(simp;done)|(simp;omega))
 clear hB hs rt0 rc0 rt1 rc1 rl2 c00 c01 c02 c10 c11 c12
 obtain⟨hB,hs,rt0,rc0,rt1,rc1,rl2,c00,c01,c02,c10,c11,c12⟩:=HX0.out _ (hbk1.out.alloc hsl_le (.cells #[.slice A0 a.es.length n0,.slice B0 a.ks.length m0,.slice D0 ac.length k0,.slice A1 b.es.length n1,.slice B1 b.ks.length m1,.slice D1 bc.length k1] 29))
 refine (JB [(a,ac),(b,bc)] _ _ (slp2 (Qf rfl) (kn_at rt0 rc0) (kn_at rt1 rc1) (by simp))).mono ?_
 rw[HSM.out]
 rintro e w2 ⟨rfl,hb⟩
 have hbk2:Hid (Below (w.heap.size+2) ((w.alloc (.cells #[.slice A0 a.es.length n0,.slice B0 a.ks.length m0,.slice D0 ac.length k0] 29)).alloc (.cells #[.slice A1 b.es.length n1,.slice B1 b.ks.length m1,.slice D1 bc.length k1] 29)) w2):=hid ((hbk1.out.alloc hsl_le (.cells #[.slice A0 a.es.length n0,.slice B0 a.ks.length m0,.slice D0 ac.length k0,.slice A1 b.es.length n1,.slice B1 b.ks.length m1,.slice D1 bc.length k1] 29)).trans (hb.mono (by first|omega|(simp;done)|(simp;omega))))
 clear hb
 clear hB hs rt0 rc0 rt1 rc1 rl2 c00 c01 c02 c10 c11 c12
 obtain⟨hB,hs,rt0,rc0,rt1,rc1,rl2,c00,c01,c02,c10,c11,c12⟩:=HX0.out _ hbk2.out
 cases SM
 ·skip
  go_wp2_with fail
  refine (ZF _).mono ?_
  rintro e w3 ⟨rfl,hb⟩
  have hbk3:Hid (Below (w.heap.size+2) ((w.alloc (.cells #[.slice A0 a.es.length n0,.slice B0 a.ks.length m0,.slice D0 ac.length k0] 29)).alloc (.cells #[.slice A1 b.es.length n1,.slice B1 b.ks.length m1,.slice D1 bc.length k1] 29)) w3):=hid (hbk2.out.trans (hb.mono (by first|omega|(simp;done)|(simp;omega))))
  clear hb
  clear hB hs rt0 rc0 rt1 rc1 rl2 c00 c01 c02 c10 c11 c12
  obtain⟨hB,hs,rt0,rc0,rt1,rc1,rl2,c00,c01,c02,c10,c11,c12⟩:=HX0.out _ hbk3.out
  go_wp2_with fail
  go_ret
  exact⟨rfl,hB⟩
 have z0:(a.sz<=40/\ac.length<=40)/\b.sz<=40/\bc.length<=40:=by have h:=HSM.out;simp only[List.all_cons,List.all_nil,Bool.and_true,Bool.and_eq_true]at h;exact⟨VI h.1,VI h.2⟩
 obtain⟨⟨z1,z2⟩,z3,z4⟩:=z0
 by_cases h20:20<keys.length
 ·have h20':decide ((20:Int)<(keys.length:Int))=true:=by simp;omega
  have h21:(20:Int)<(keys.length:Int):=by omega
  go_wp2_with fail
  refine (ZF _).mono ?_
  rintro e w3 ⟨rfl,hb⟩
  have hbk3:Hid (Below (w.heap.size+2) ((w.alloc (.cells #[.slice A0 a.es.length n0,.slice B0 a.ks.length m0,.slice D0 ac.length k0] 29)).alloc (.cells #[.slice A1 b.es.length n1,.slice B1 b.ks.length m1,.slice D1 bc.length k1] 29)) w3):=hid (hbk2.out.trans (hb.mono (by first|omega|(simp;done)|(simp;omega))))
  clear hb
  clear hB hs rt0 rc0 rt1 rc1 rl2 c00 c01 c02 c10 c11 c12
  obtain⟨hB,hs,rt0,rc0,rt1,rc1,rl2,c00,c01,c02,c10,c11,c12⟩:=HX0.out _ hbk3.out
  go_wp2_with fail
  go_ret
  exact⟨rfl,hB⟩
 ·have h20':decide ((20:Int)<(keys.length:Int))=false:=by simp;omega
  have h21:¬(20:Int)<(keys.length:Int):=by omega
  go_upto_region 3 with (fail)
  have HSS:Hid (∀ W,Below (w.heap.size+2) ((w.alloc (.cells #[.slice A0 a.es.length n0,.slice B0 a.ks.length m0,.slice D0 ac.length k0] 29)).alloc (.cells #[.slice A1 b.es.length n1,.slice B1 b.ks.length m1,.slice D1 bc.length k1] 29)) W->((W).cell? ⟨w.heap.size,0,none⟩=some (.slice A0 a.es.length n0)/\(W).cell? ⟨w.heap.size,1,none⟩=some (.slice B0 a.ks.length m0)/\(W).cell? ⟨w.heap.size,2,none⟩=some (.slice D0 ac.length k0)/\(W).cell? ⟨(w.heap.size+1),0,none⟩=some (.slice A1 b.es.length n1)/\(W).cell? ⟨(w.heap.size+1),1,none⟩=some (.slice B1 b.ks.length m1)/\(W).cell? ⟨(w.heap.size+1),2,none⟩=some (.slice D1 bc.length k1))):=fun W hW=>by
   obtain⟨_,_,_,_,_,_,_,z_c00,z_c01,z_c02,z_c10,z_c11,z_c12⟩:=HX0.out W hW
   exact⟨z_c00,z_c01,z_c02,z_c10,z_c11,z_c12⟩
  have Hrt0:Hid (∀ W,Below (w.heap.size+2) ((w.alloc (.cells #[.slice A0 a.es.length n0,.slice B0 a.ks.length m0,.slice D0 ac.length k0] 29)).alloc (.cells #[.slice A1 b.es.length n1,.slice B1 b.ks.length m1,.slice D1 bc.length k1] 29)) W->a.rd W (W).heap.size (.slice A0 a.es.length n0) (.slice B0 a.ks.length m0)):=fun W hW=>by
   obtain⟨_,_,z,_,_,_,_,_,_,_,_,_,_⟩:=HX0.out W hW
   exact z
  have Hrc0:Hid (∀ W,Below (w.heap.size+2) ((w.alloc (.cells #[.slice A0 a.es.length n0,.slice B0 a.ks.length m0,.slice D0 ac.length k0] 29)).alloc (.cells #[.slice A1 b.es.length n1,.slice B1 b.ks.length m1,.slice D1 bc.length k1] 29)) W->SlP W (W).heap.size 3 SpE (.slice D0 ac.length k0) ac):=fun W hW=>by
   obtain⟨_,_,_,z,_,_,_,_,_,_,_,_,_⟩:=HX0.out W hW
   exact z
  have Hrt1:Hid (∀ W,Below (w.heap.size+2) ((w.alloc (.cells #[.slice A0 a.es.length n0,.slice B0 a.ks.length m0,.slice D0 ac.length k0] 29)).alloc (.cells #[.slice A1 b.es.length n1,.slice B1 b.ks.length m1,.slice D1 bc.length k1] 29)) W->b.rd W (W).heap.size (.slice A1 b.es.length n1) (.slice B1 b.ks.length m1)):=fun W hW=>by
   obtain⟨_,_,_,_,z,_,_,_,_,_,_,_,_⟩:=HX0.out W hW
   exact z
  have Hrc1:Hid (∀ W,Below (w.heap.size+2) ((w.alloc (.cells #[.slice A0 a.es.length n0,.slice B0 a.ks.length m0,.slice D0 ac.length k0] 29)).alloc (.cells #[.slice A1 b.es.length n1,.slice B1 b.ks.length m1,.slice D1 bc.length k1] 29)) W->SlP W (W).heap.size 3 SpE (.slice D1 bc.length k1) bc):=fun W hW=>by
   obtain⟨_,_,_,_,_,z,_,_,_,_,_,_,_⟩:=HX0.out W hW
   exact z
  have HS0:=hid (S3.start hbk2.out hs)
  clear hB hs rt0 rc0 rt1 rc1 rl2 c00 c01 c02 c10 c11 c12
  go_cut [7,8] (fun sx sy wx=>TwoC (w.heap.size+2) ((w.alloc (.cells #[.slice A0 a.es.length n0,.slice B0 a.ks.length m0,.slice D0 ac.length k0] 29)).alloc (.cells #[.slice A1 b.es.length n1,.slice B1 b.ks.length m1,.slice D1 bc.length k1] 29)) ((a,ac)) ((b,bc)) sx sy wx)
  case first=>
   refine Yi (S:=fun W=>((W).cell? ⟨w.heap.size,0,none⟩=some (.slice A0 a.es.length n0)/\(W).cell? ⟨w.heap.size,1,none⟩=some (.slice B0 a.ks.length m0)/\(W).cell? ⟨w.heap.size,2,none⟩=some (.slice D0 ac.length k0)/\(W).cell? ⟨(w.heap.size+1),0,none⟩=some (.slice A1 b.es.length n1)/\(W).cell? ⟨(w.heap.size+1),1,none⟩=some (.slice B1 b.ks.length m1)/\(W).cell? ⟨(w.heap.size+1),2,none⟩=some (.slice D1 bc.length k1))) 6 (by kernel_rfl) (by kernel_rfl) ?_
   simp only[List.take_succ_cons,List.take_zero,List.drop_succ_cons,List.drop_zero]
   have HQ0:Hid (S3 (w.heap.size+2) ((w.alloc (.cells #[.slice A0 a.es.length n0,.slice B0 a.ks.length m0,.slice D0 ac.length k0] 29)).alloc (.cells #[.slice A1 b.es.length n1,.slice B1 b.ks.length m1,.slice D1 bc.length k1] 29)) (w2).drew none none none none):=hid (S3.step HS0.out (Below.refl _ _).drew)
   have hHeld:=HSS.out _ HQ0.out.below
   refine wpAnyH_take (i:=0) (oi:=_) (v:=?va) rfl (by kernel_rfl) (by kernel_rfl) (by kernel_rfl) (fun _ _ _ h=>h) (Or.inl ⟨by rfl,?ha⟩) (by assumption) ?_
   case ha=>(intro w hSw;(try dsimp only at hSw);go_simp;(try with_reducible rfl))
   simp only[Act.put,List.setIfInBounds_toArray,List.set_cons_zero,List.set_cons_succ,List.getElem_toArray,List.getElem_cons_zero,List.getElem_cons_succ]
   refine wpAnyH_take (i:=2) (oi:=_) (v:=?vb) rfl (by kernel_rfl) (by kernel_rfl) (by kernel_rfl) (fun _ _ _ h=>h) (Or.inl ⟨by rfl,?hb⟩) (by assumption) ?_
   case hb=>(intro w hSw;(try dsimp only at hSw);go_simp;(try with_reducible rfl))
   simp only[Act.put,List.setIfInBounds_toArray,List.set_cons_zero,List.set_cons_succ,List.getElem_toArray,List.getElem_cons_zero,List.getElem_cons_succ]
   generalize (w2).drew=u0 at *
   refine wpAnyH_ready (rs:=[1,4,5]) (by kernel_rfl) (by simp) ?_
   refine AllReadyH.cons (o:=_) rfl (fun K hK=>?_) (AllReadyH.cons (o:=_) rfl (fun K hK=>?_) (AllReadyH.cons (o:=_) rfl (fun K hK=>?_) AllReadyH.nil))
   ·skip
    go_simp
    refine (Qo a ac _ _ _ _ (Hrt0.out _ HQ0.out.below) (Hrc0.out _ HQ0.out.below) (by omega) (by omega)).mono ?_
    rintro e u1 ⟨ve1,vk1,vc1,rfl,hrd1,hsl1,hb1⟩
    obtain⟨A1u,n1u,B1u,m1u,e1,e2⟩:=Ql hrd1
    subst e1
    subst e2
    obtain⟨D1u,k1u,e3,_⟩:=id hsl1
    subst e3
    have HQ1:=hid (HQ0.out.getJ hb1 (QJ (fun _ _=>rfl) (fun _ h=>h) _ _ _ hrd1) hsl1.dn)
    clear hrd1 hsl1 hb1
    refine hK.out _ _ ?_ (fun hHeld1=>?_)
    ·exact HSS.out _ HQ1.out.below
    clear hK K
    try simp only[Act.put,List.setIfInBounds_toArray,List.set_cons_zero,List.set_cons_succ,List.getElem_toArray,List.getElem_cons_zero,List.getElem_cons_succ]
    refine wpAnyH_ready (rs:=[3,4,5]) (by kernel_rfl) (by simp) ?_
    refine AllReadyH.cons (o:=_) rfl (fun K hK=>?_) (AllReadyH.cons (o:=_) rfl (fun K hK=>?_) (AllReadyH.cons (o:=_) rfl (fun K hK=>?_) AllReadyH.nil))
    ·skip
     go_simp
     refine (Qo b bc _ _ _ _ (Hrt1.out _ HQ1.out.below) (Hrc1.out _ HQ1.out.below) (by omega) (by omega)).mono ?_
     rintro e u2 ⟨ve2,vk2,vc2,rfl,hrd2,hsl2,hb2⟩
     obtain⟨A2u,n2u,B2u,m2u,e1,e2⟩:=Ql hrd2
     subst e1
     subst e2
     obtain⟨D2u,k2u,e3,_⟩:=id hsl2
     subst e3
     have HQ2:=hid (HQ1.out.getK hb2 (QJ (fun _ _=>rfl) (fun _ h=>h) _ _ _ hrd2) hsl2.dn)
     clear hrd2 hsl2 hb2
     refine hK.out _ _ ?_ (fun hHeld2=>?_)
     ·exact HSS.out _ HQ2.out.below
     clear hK K
     try simp only[Act.put,List.setIfInBounds_toArray,List.set_cons_zero,List.set_cons_succ,List.getElem_toArray,List.getElem_cons_zero,List.getElem_cons_succ]
     refine wpAnyH_ready (rs:=[4,5]) (by kernel_rfl) (by simp) ?_
     refine AllReadyH.cons (o:=_) rfl (fun K hK=>?_) (AllReadyH.cons (o:=_) rfl (fun K hK=>?_) AllReadyH.nil)
     ·skip
      have HQ3:=hid HQ2.out.newX
      obtain⟨u3,hu3⟩:∃ z,z=u2.alloc (.cells #[.slice none 0 0,.slice none 0 0,.slice none 0 0] 29 (0,0)):=⟨_,rfl⟩
      rw[←hu3]at HQ3
      go_simp
      rw[←hu3]
      clear hu3
      refine hK.out _ _ ?_ (fun hHeld3=>?_)
      ·exact HSS.out _ HQ3.out.below
      clear hK K
      try simp only[Act.put,List.setIfInBounds_toArray,List.set_cons_zero,List.set_cons_succ,List.getElem_toArray,List.getElem_cons_zero,List.getElem_cons_succ]
      refine wpAnyH_ready (rs:=[5]) (by kernel_rfl) (by simp) ?_
      refine AllReadyH.cons (o:=_) rfl (fun K hK=>?_) AllReadyH.nil
      ·skip
       have HQ4:=hid HQ3.out.newY
       obtain⟨u4,hu4⟩:∃ z,z=u3.alloc (.cells #[.slice none 0 0,.slice none 0 0,.slice none 0 0] 29 (0,0)):=⟨_,rfl⟩
       rw[←hu4]at HQ4
       go_simp
       rw[←hu4]
       clear hu4
       refine hK.out _ _ ?_ (fun hHeld4=>?_)
       ·exact HSS.out _ HQ4.out.below
       clear hK K
       try simp only[Act.put,List.setIfInBounds_toArray,List.set_cons_zero,List.set_cons_succ,List.getElem_toArray,List.getElem_cons_zero,List.getElem_cons_succ]
       have g1:=hid (HQ4.out.bx _ rfl).2
       have g2:=hid (HQ4.out.byy _ rfl).2
       have hlx:=lt_of_block g1.out
       have hly:=lt_of_block g2.out
       have hxy:u2.heap.size≠u3.heap.size:=fun e=>HQ4.out.ne _ rfl (by rw[e])
       have hyx:u3.heap.size≠u2.heap.size:=fun e=>HQ4.out.ne _ rfl (by rw[e])
       have k0:=Qa (i:=0) g1.out
       have y0:=Qa (i:=0) g2.out
       have z0:=Qb (i:=0) g1.out
       have x0:=Qb (i:=0) g2.out
       have k1:=Qa (i:=1) g1.out
       have y1:=Qa (i:=1) g2.out
       have z1:=Qb (i:=1) g1.out
       have x1:=Qb (i:=1) g2.out
       have k2:=Qa (i:=2) g1.out
       have y2:=Qa (i:=2) g2.out
       have z2:=Qb (i:=2) g1.out
       have x2:=Qb (i:=2) g2.out
       simp only[List.getElem?_toArray,List.getElem?_cons_zero,List.getElem?_cons_succ]at k0 k1 k2 y0 y1 y2
       have HFI:=hid HQ4.out.fin
       refine wpAnyH_done (by kernel_rfl) ?_ _
       change wpList _ _ _ _ _ _
       go_wp2_with fail
       change wpList _ _ _ _ _ _
       go_wp2_with fail
       go_meet
       case rel=>exact HFI.out
     ·skip
      have HQ5:=hid HQ2.out.newY
      obtain⟨u5,hu5⟩:∃ z,z=u2.alloc (.cells #[.slice none 0 0,.slice none 0 0,.slice none 0 0] 29 (0,0)):=⟨_,rfl⟩
      rw[←hu5]at HQ5
      go_simp
      rw[←hu5]
      clear hu5
      refine hK.out _ _ ?_ (fun hHeld5=>?_)
      ·exact HSS.out _ HQ5.out.below
      clear hK K
      try simp only[Act.put,List.setIfInBounds_toArray,List.set_cons_zero,List.set_cons_succ,List.getElem_toArray,List.getElem_cons_zero,List.getElem_cons_succ]
      refine wpAnyH_ready (rs:=[4]) (by kernel_rfl) (by simp) ?_
      refine AllReadyH.cons (o:=_) rfl (fun K hK=>?_) AllReadyH.nil
      ·skip
       have HQ6:=hid HQ5.out.newX
       obtain⟨u6,hu6⟩:∃ z,z=u5.alloc (.cells #[.slice none 0 0,.slice none 0 0,.slice none 0 0] 29 (0,0)):=⟨_,rfl⟩
       rw[←hu6]at HQ6
       go_simp
       rw[←hu6]
       clear hu6
       refine hK.out _ _ ?_ (fun hHeld6=>?_)
       ·exact HSS.out _ HQ6.out.below
       clear hK K
       try simp only[Act.put,List.setIfInBounds_toArray,List.set_cons_zero,List.set_cons_succ,List.getElem_toArray,List.getElem_cons_zero,List.getElem_cons_succ]
       have g1:=hid (HQ6.out.bx _ rfl).2
       have g2:=hid (HQ6.out.byy _ rfl).2
       have hlx:=lt_of_block g1.out
       have hly:=lt_of_block g2.out
       have hxy:u5.heap.size≠u2.heap.size:=fun e=>HQ6.out.ne _ rfl (by rw[e])
       have hyx:u2.heap.size≠u5.heap.size:=fun e=>HQ6.out.ne _ rfl (by rw[e])
       have k0:=Qa (i:=0) g1.out
       have y0:=Qa (i:=0) g2.out
       have z0:=Qb (i:=0) g1.out
       have x0:=Qb (i:=0) g2.out
       have k1:=Qa (i:=1) g1.out
       have y1:=Qa (i:=1) g2.out
       have z1:=Qb (i:=1) g1.out
       have x1:=Qb (i:=1) g2.out
       have k2:=Qa (i:=2) g1.out
       have y2:=Qa (i:=2) g2.out
       have z2:=Qb (i:=2) g1.out
       have x2:=Qb (i:=2) g2.out
       simp only[List.getElem?_toArray,List.getElem?_cons_zero,List.getElem?_cons_succ]at k0 k1 k2 y0 y1 y2
       have HFI:=hid HQ6.out.fin
       refine wpAnyH_done (by kernel_rfl) ?_ _
       change wpList _ _ _ _ _ _
       go_wp2_with fail
       change wpList _ _ _ _ _ _
       go_wp2_with fail
       go_meet
       case rel=>exact HFI.out
    ·skip
     have HQ7:=hid HQ1.out.newX
     obtain⟨u7,hu7⟩:∃ z,z=u1.alloc (.cells #[.slice none 0 0,.slice none 0 0,.slice none 0 0] 29 (0,0)):=⟨_,rfl⟩
     rw[←hu7]at HQ7
     go_simp
     rw[←hu7]
     clear hu7
     refine hK.out _ _ ?_ (fun hHeld7=>?_)
     ·exact HSS.out _ HQ7.out.below
     clear hK K
     try simp only[Act.put,List.setIfInBounds_toArray,List.set_cons_zero,List.set_cons_succ,List.getElem_toArray,List.getElem_cons_zero,List.getElem_cons_succ]
     refine wpAnyH_ready (rs:=[3,5]) (by kernel_rfl) (by simp) ?_
     refine AllReadyH.cons (o:=_) rfl (fun K hK=>?_) (AllReadyH.cons (o:=_) rfl (fun K hK=>?_) AllReadyH.nil)
     ·skip
      go_simp
      refine (Qo b bc _ _ _ _ (Hrt1.out _ HQ7.out.below) (Hrc1.out _ HQ7.out.below) (by omega) (by omega)).mono ?_
      rintro e u8 ⟨ve8,vk8,vc8,rfl,hrd8,hsl8,hb8⟩
      obtain⟨A8u,n8u,B8u,m8u,e1,e2⟩:=Ql hrd8
      subst e1
      subst e2
      obtain⟨D8u,k8u,e3,_⟩:=id hsl8
      subst e3
      have HQ8:=hid (HQ7.out.getK hb8 (QJ (fun _ _=>rfl) (fun _ h=>h) _ _ _ hrd8) hsl8.dn)
      clear hrd8 hsl8 hb8
      refine hK.out _ _ ?_ (fun hHeld8=>?_)
      ·exact HSS.out _ HQ8.out.below
      clear hK K
      try simp only[Act.put,List.setIfInBounds_toArray,List.set_cons_zero,List.set_cons_succ,List.getElem_toArray,List.getElem_cons_zero,List.getElem_cons_succ]
      refine wpAnyH_ready (rs:=[5]) (by kernel_rfl) (by simp) ?_
      refine AllReadyH.cons (o:=_) rfl (fun K hK=>?_) AllReadyH.nil
      ·skip
       have HQ9:=hid HQ8.out.newY
       obtain⟨u9,hu9⟩:∃ z,z=u8.alloc (.cells #[.slice none 0 0,.slice none 0 0,.slice none 0 0] 29 (0,0)):=⟨_,rfl⟩
       rw[←hu9]at HQ9
       go_simp
       rw[←hu9]
       clear hu9
       refine hK.out _ _ ?_ (fun hHeld9=>?_)
       ·exact HSS.out _ HQ9.out.below
       clear hK K
       try simp only[Act.put,List.setIfInBounds_toArray,List.set_cons_zero,List.set_cons_succ,List.getElem_toArray,List.getElem_cons_zero,List.getElem_cons_succ]
       have g1:=hid (HQ9.out.bx _ rfl).2
       have g2:=hid (HQ9.out.byy _ rfl).2
       have hlx:=lt_of_block g1.out
       have hly:=lt_of_block g2.out
       have hxy:u1.heap.size≠u8.heap.size:=fun e=>HQ9.out.ne _ rfl (by rw[e])
       have hyx:u8.heap.size≠u1.heap.size:=fun e=>HQ9.out.ne _ rfl (by rw[e])
       have k0:=Qa (i:=0) g1.out
       have y0:=Qa (i:=0) g2.out
       have z0:=Qb (i:=0) g1.out
       have x0:=Qb (i:=0) g2.out
       have k1:=Qa (i:=1) g1.out
       have y1:=Qa (i:=1) g2.out
       have z1:=Qb (i:=1) g1.out
       have x1:=Qb (i:=1) g2.out
       have k2:=Qa (i:=2) g1.out
       have y2:=Qa (i:=2) g2.out
       have z2:=Qb (i:=2) g1.out
       have x2:=Qb (i:=2) g2.out
       simp only[List.getElem?_toArray,List.getElem?_cons_zero,List.getElem?_cons_succ]at k0 k1 k2 y0 y1 y2
       have HFI:=hid HQ9.out.fin
       refine wpAnyH_done (by kernel_rfl) ?_ _
       change wpList _ _ _ _ _ _
       go_wp2_with fail
       change wpList _ _ _ _ _ _
       go_wp2_with fail
       go_meet
       case rel=>exact HFI.out
     ·skip
      have HQ10:=hid HQ7.out.newY
      obtain⟨u10,hu10⟩:∃ z,z=u7.alloc (.cells #[.slice none 0 0,.slice none 0 0,.slice none 0 0] 29 (0,0)):=⟨_,rfl⟩
      rw[←hu10]at HQ10
      go_simp
      rw[←hu10]
      clear hu10
      refine hK.out _ _ ?_ (fun hHeld10=>?_)
      ·exact HSS.out _ HQ10.out.below
      clear hK K
      try simp only[Act.put,List.setIfInBounds_toArray,List.set_cons_zero,List.set_cons_succ,List.getElem_toArray,List.getElem_cons_zero,List.getElem_cons_succ]
      refine wpAnyH_ready (rs:=[3]) (by kernel_rfl) (by simp) ?_
      refine AllReadyH.cons (o:=_) rfl (fun K hK=>?_) AllReadyH.nil
      ·skip
       go_simp
       refine (Qo b bc _ _ _ _ (Hrt1.out _ HQ10.out.below) (Hrc1.out _ HQ10.out.below) (by omega) (by omega)).mono ?_
       rintro e u11 ⟨ve11,vk11,vc11,rfl,hrd11,hsl11,hb11⟩
       obtain⟨A11u,n11u,B11u,m11u,e1,e2⟩:=Ql hrd11
       subst e1
       subst e2
       obtain⟨D11u,k11u,e3,_⟩:=id hsl11
       subst e3
       have HQ11:=hid (HQ10.out.getK hb11 (QJ (fun _ _=>rfl) (fun _ h=>h) _ _ _ hrd11) hsl11.dn)
       clear hrd11 hsl11 hb11
       refine hK.out _ _ ?_ (fun hHeld11=>?_)
       ·exact HSS.out _ HQ11.out.below
       clear hK K
       try simp only[Act.put,List.setIfInBounds_toArray,List.set_cons_zero,List.set_cons_succ,List.getElem_toArray,List.getElem_cons_zero,List.getElem_cons_succ]
       have g1:=hid (HQ11.out.bx _ rfl).2
       have g2:=hid (HQ11.out.byy _ rfl).2
       have hlx:=lt_of_block g1.out
       have hly:=lt_of_block g2.out
       have hxy:u1.heap.size≠u7.heap.size:=fun e=>HQ11.out.ne _ rfl (by rw[e])
       have hyx:u7.heap.size≠u1.heap.size:=fun e=>HQ11.out.ne _ rfl (by rw[e])
       have k0:=Qa (i:=0) g1.out
       have y0:=Qa (i:=0) g2.out
       have z0:=Qb (i:=0) g1.out
       have x0:=Qb (i:=0) g2.out
       have k1:=Qa (i:=1) g1.out
       have y1:=Qa (i:=1) g2.out
       have z1:=Qb (i:=1) g1.out
       have x1:=Qb (i:=1) g2.out
       have k2:=Qa (i:=2) g1.out
       have y2:=Qa (i:=2) g2.out
       have z2:=Qb (i:=2) g1.out
       have x2:=Qb (i:=2) g2.out
       simp only[List.getElem?_toArray,List.getElem?_cons_zero,List.getElem?_cons_succ]at k0 k1 k2 y0 y1 y2
       have HFI:=hid HQ11.out.fin
       refine wpAnyH_done (by kernel_rfl) ?_ _
       change wpList _ _ _ _ _ _
       go_wp2_with fail
       change wpList _ _ _ _ _ _
       go_wp2_with fail
       go_meet
       case rel=>exact HFI.out
    ·skip
     have HQ12:=hid HQ1.out.newY
     obtain⟨u12,hu12⟩:∃ z,z=u1.alloc (.cells #[.slice none 0 0,.slice none 0 0,.slice none 0 0] 29 (0,0)):=⟨_,rfl⟩
     rw[←hu12]at HQ12
     go_simp
     rw[←hu12]
     clear hu12
     refine hK.out _ _ ?_ (fun hHeld12=>?_)
     ·exact HSS.out _ HQ12.out.below
     clear hK K
     try simp only[Act.put,List.setIfInBounds_toArray,List.set_cons_zero,List.set_cons_succ,List.getElem_toArray,List.getElem_cons_zero,List.getElem_cons_succ]
     refine wpAnyH_ready (rs:=[3,4]) (by kernel_rfl) (by simp) ?_
     refine AllReadyH.cons (o:=_) rfl (fun K hK=>?_) (AllReadyH.cons (o:=_) rfl (fun K hK=>?_) AllReadyH.nil)
     ·skip
      go_simp
      refine (Qo b bc _ _ _ _ (Hrt1.out _ HQ12.out.below) (Hrc1.out _ HQ12.out.below) (by omega) (by omega)).mono ?_
      rintro e u13 ⟨ve13,vk13,vc13,rfl,hrd13,hsl13,hb13⟩
      obtain⟨A13u,n13u,B13u,m13u,e1,e2⟩:=Ql hrd13
      subst e1
      subst e2
      obtain⟨D13u,k13u,e3,_⟩:=id hsl13
      subst e3
      have HQ13:=hid (HQ12.out.getK hb13 (QJ (fun _ _=>rfl) (fun _ h=>h) _ _ _ hrd13) hsl13.dn)
      clear hrd13 hsl13 hb13
      refine hK.out _ _ ?_ (fun hHeld13=>?_)
      ·exact HSS.out _ HQ13.out.below
      clear hK K
      try simp only[Act.put,List.setIfInBounds_toArray,List.set_cons_zero,List.set_cons_succ,List.getElem_toArray,List.getElem_cons_zero,List.getElem_cons_succ]
      refine wpAnyH_ready (rs:=[4]) (by kernel_rfl) (by simp) ?_
      refine AllReadyH.cons (o:=_) rfl (fun K hK=>?_) AllReadyH.nil
      ·skip
       have HQ14:=hid HQ13.out.newX
       obtain⟨u14,hu14⟩:∃ z,z=u13.alloc (.cells #[.slice none 0 0,.slice none 0 0,.slice none 0 0] 29 (0,0)):=⟨_,rfl⟩
       rw[←hu14]at HQ14
       go_simp
       rw[←hu14]
       clear hu14
       refine hK.out _ _ ?_ (fun hHeld14=>?_)
       ·exact HSS.out _ HQ14.out.below
       clear hK K
       try simp only[Act.put,List.setIfInBounds_toArray,List.set_cons_zero,List.set_cons_succ,List.getElem_toArray,List.getElem_cons_zero,List.getElem_cons_succ]
       have g1:=hid (HQ14.out.bx _ rfl).2
       have g2:=hid (HQ14.out.byy _ rfl).2
       have hlx:=lt_of_block g1.out
       have hly:=lt_of_block g2.out
       have hxy:u13.heap.size≠u1.heap.size:=fun e=>HQ14.out.ne _ rfl (by rw[e])
       have hyx:u1.heap.size≠u13.heap.size:=fun e=>HQ14.out.ne _ rfl (by rw[e])
       have k0:=Qa (i:=0) g1.out
       have y0:=Qa (i:=0) g2.out
       have z0:=Qb (i:=0) g1.out
       have x0:=Qb (i:=0) g2.out
       have k1:=Qa (i:=1) g1.out
       have y1:=Qa (i:=1) g2.out
       have z1:=Qb (i:=1) g1.out
       have x1:=Qb (i:=1) g2.out
       have k2:=Qa (i:=2) g1.out
       have y2:=Qa (i:=2) g2.out
       have z2:=Qb (i:=2) g1.out
       have x2:=Qb (i:=2) g2.out
       simp only[List.getElem?_toArray,List.getElem?_cons_zero,List.getElem?_cons_succ]at k0 k1 k2 y0 y1 y2
       have HFI:=hid HQ14.out.fin
       refine wpAnyH_done (by kernel_rfl) ?_ _
       change wpList _ _ _ _ _ _
       go_wp2_with fail
       change wpList _ _ _ _ _ _
       go_wp2_with fail
       go_meet
       case rel=>exact HFI.out
     ·skip
      have HQ15:=hid HQ12.out.newX
      obtain⟨u15,hu15⟩:∃ z,z=u12.alloc (.cells #[.slice none 0 0,.slice none 0 0,.slice none 0 0] 29 (0,0)):=⟨_,rfl⟩
      rw[←hu15]at HQ15
      go_simp
      rw[←hu15]
      clear hu15
      refine hK.out _ _ ?_ (fun hHeld15=>?_)
      ·exact HSS.out _ HQ15.out.below
      clear hK K
      try simp only[Act.put,List.setIfInBounds_toArray,List.set_cons_zero,List.set_cons_succ,List.getElem_toArray,List.getElem_cons_zero,List.getElem_cons_succ]
      refine wpAnyH_ready (rs:=[3]) (by kernel_rfl) (by simp) ?_
      refine AllReadyH.cons (o:=_) rfl (fun K hK=>?_) AllReadyH.nil
      ·skip
       go_simp
       refine (Qo b bc _ _ _ _ (Hrt1.out _ HQ15.out.below) (Hrc1.out _ HQ15.out.below) (by omega) (by omega)).mono ?_
       rintro e u16 ⟨ve16,vk16,vc16,rfl,hrd16,hsl16,hb16⟩
       obtain⟨A16u,n16u,B16u,m16u,e1,e2⟩:=Ql hrd16
       subst e1
       subst e2
       obtain⟨D16u,k16u,e3,_⟩:=id hsl16
       subst e3
       have HQ16:=hid (HQ15.out.getK hb16 (QJ (fun _ _=>rfl) (fun _ h=>h) _ _ _ hrd16) hsl16.dn)
       clear hrd16 hsl16 hb16
       refine hK.out _ _ ?_ (fun hHeld16=>?_)
       ·exact HSS.out _ HQ16.out.below
       clear hK K
       try simp only[Act.put,List.setIfInBounds_toArray,List.set_cons_zero,List.set_cons_succ,List.getElem_toArray,List.getElem_cons_zero,List.getElem_cons_succ]
       have g1:=hid (HQ16.out.bx _ rfl).2
       have g2:=hid (HQ16.out.byy _ rfl).2
       have hlx:=lt_of_block g1.out
       have hly:=lt_of_block g2.out
       have hxy:u12.heap.size≠u1.heap.size:=fun e=>HQ16.out.ne _ rfl (by rw[e])
       have hyx:u1.heap.size≠u12.heap.size:=fun e=>HQ16.out.ne _ rfl (by rw[e])
       have k0:=Qa (i:=0) g1.out
       have y0:=Qa (i:=0) g2.out
       have z0:=Qb (i:=0) g1.out
       have x0:=Qb (i:=0) g2.out
       have k1:=Qa (i:=1) g1.out
       have y1:=Qa (i:=1) g2.out
       have z1:=Qb (i:=1) g1.out
       have x1:=Qb (i:=1) g2.out
       have k2:=Qa (i:=2) g1.out
       have y2:=Qa (i:=2) g2.out
       have z2:=Qb (i:=2) g1.out
       have x2:=Qb (i:=2) g2.out
       simp only[List.getElem?_toArray,List.getElem?_cons_zero,List.getElem?_cons_succ]at k0 k1 k2 y0 y1 y2
       have HFI:=hid HQ16.out.fin
       refine wpAnyH_done (by kernel_rfl) ?_ _
       change wpList _ _ _ _ _ _
       go_wp2_with fail
       change wpList _ _ _ _ _ _
       go_wp2_with fail
       go_meet
       case rel=>exact HFI.out
   ·skip
    have HQ17:=hid HQ0.out.newX
    obtain⟨u17,hu17⟩:∃ z,z=u0.alloc (.cells #[.slice none 0 0,.slice none 0 0,.slice none 0 0] 29 (0,0)):=⟨_,rfl⟩
    rw[←hu17]at HQ17
    go_simp
    rw[←hu17]
    clear hu17
    refine hK.out _ _ ?_ (fun hHeld17=>?_)
    ·exact HSS.out _ HQ17.out.below
    clear hK K
    try simp only[Act.put,List.setIfInBounds_toArray,List.set_cons_zero,List.set_cons_succ,List.getElem_toArray,List.getElem_cons_zero,List.getElem_cons_succ]
    refine wpAnyH_ready (rs:=[1,5]) (by kernel_rfl) (by simp) ?_
    refine AllReadyH.cons (o:=_) rfl (fun K hK=>?_) (AllReadyH.cons (o:=_) rfl (fun K hK=>?_) AllReadyH.nil)
    ·skip
     go_simp
     refine (Qo a ac _ _ _ _ (Hrt0.out _ HQ17.out.below) (Hrc0.out _ HQ17.out.below) (by omega) (by omega)).mono ?_
     rintro e u18 ⟨ve18,vk18,vc18,rfl,hrd18,hsl18,hb18⟩
     obtain⟨A18u,n18u,B18u,m18u,e1,e2⟩:=Ql hrd18
     subst e1
     subst e2
     obtain⟨D18u,k18u,e3,_⟩:=id hsl18
     subst e3
     have HQ18:=hid (HQ17.out.getJ hb18 (QJ (fun _ _=>rfl) (fun _ h=>h) _ _ _ hrd18) hsl18.dn)
     clear hrd18 hsl18 hb18
     refine hK.out _ _ ?_ (fun hHeld18=>?_)
     ·exact HSS.out _ HQ18.out.below
     clear hK K
     try simp only[Act.put,List.setIfInBounds_toArray,List.set_cons_zero,List.set_cons_succ,List.getElem_toArray,List.getElem_cons_zero,List.getElem_cons_succ]
     refine wpAnyH_ready (rs:=[3,5]) (by kernel_rfl) (by simp) ?_
     refine AllReadyH.cons (o:=_) rfl (fun K hK=>?_) (AllReadyH.cons (o:=_) rfl (fun K hK=>?_) AllReadyH.nil)
     ·skip
      go_simp
      refine (Qo b bc _ _ _ _ (Hrt1.out _ HQ18.out.below) (Hrc1.out _ HQ18.out.below) (by omega) (by omega)).mono ?_
      rintro e u19 ⟨ve19,vk19,vc19,rfl,hrd19,hsl19,hb19⟩
      obtain⟨A19u,n19u,B19u,m19u,e1,e2⟩:=Ql hrd19
      subst e1
      subst e2
      obtain⟨D19u,k19u,e3,_⟩:=id hsl19
      subst e3
      have HQ19:=hid (HQ18.out.getK hb19 (QJ (fun _ _=>rfl) (fun _ h=>h) _ _ _ hrd19) hsl19.dn)
      clear hrd19 hsl19 hb19
      refine hK.out _ _ ?_ (fun hHeld19=>?_)
      ·exact HSS.out _ HQ19.out.below
      clear hK K
      try simp only[Act.put,List.setIfInBounds_toArray,List.set_cons_zero,List.set_cons_succ,List.getElem_toArray,List.getElem_cons_zero,List.getElem_cons_succ]
      refine wpAnyH_ready (rs:=[5]) (by kernel_rfl) (by simp) ?_
      refine AllReadyH.cons (o:=_) rfl (fun K hK=>?_) AllReadyH.nil
      ·skip
       have HQ20:=hid HQ19.out.newY
       obtain⟨u20,hu20⟩:∃ z,z=u19.alloc (.cells #[.slice none 0 0,.slice none 0 0,.slice none 0 0] 29 (0,0)):=⟨_,rfl⟩
       rw[←hu20]at HQ20
       go_simp
       rw[←hu20]
       clear hu20
       refine hK.out _ _ ?_ (fun hHeld20=>?_)
       ·exact HSS.out _ HQ20.out.below
       clear hK K
       try simp only[Act.put,List.setIfInBounds_toArray,List.set_cons_zero,List.set_cons_succ,List.getElem_toArray,List.getElem_cons_zero,List.getElem_cons_succ]
       have g1:=hid (HQ20.out.bx _ rfl).2
       have g2:=hid (HQ20.out.byy _ rfl).2
       have hlx:=lt_of_block g1.out
       have hly:=lt_of_block g2.out
       have hxy:u0.heap.size≠u19.heap.size:=fun e=>HQ20.out.ne _ rfl (by rw[e])
       have hyx:u19.heap.size≠u0.heap.size:=fun e=>HQ20.out.ne _ rfl (by rw[e])
       have k0:=Qa (i:=0) g1.out
       have y0:=Qa (i:=0) g2.out
       have z0:=Qb (i:=0) g1.out
       have x0:=Qb (i:=0) g2.out
       have k1:=Qa (i:=1) g1.out
       have y1:=Qa (i:=1) g2.out
       have z1:=Qb (i:=1) g1.out
       have x1:=Qb (i:=1) g2.out
       have k2:=Qa (i:=2) g1.out
       have y2:=Qa (i:=2) g2.out
       have z2:=Qb (i:=2) g1.out
       have x2:=Qb (i:=2) g2.out
       simp only[List.getElem?_toArray,List.getElem?_cons_zero,List.getElem?_cons_succ]at k0 k1 k2 y0 y1 y2
       have HFI:=hid HQ20.out.fin
       refine wpAnyH_done (by kernel_rfl) ?_ _
       change wpList _ _ _ _ _ _
       go_wp2_with fail
       change wpList _ _ _ _ _ _
       go_wp2_with fail
       go_meet
       case rel=>exact HFI.out
     ·skip
      have HQ21:=hid HQ18.out.newY
      obtain⟨u21,hu21⟩:∃ z,z=u18.alloc (.cells #[.slice none 0 0,.slice none 0 0,.slice none 0 0] 29 (0,0)):=⟨_,rfl⟩
      rw[←hu21]at HQ21
      go_simp
      rw[←hu21]
      clear hu21
      refine hK.out _ _ ?_ (fun hHeld21=>?_)
      ·exact HSS.out _ HQ21.out.below
      clear hK K
      try simp only[Act.put,List.setIfInBounds_toArray,List.set_cons_zero,List.set_cons_succ,List.getElem_toArray,List.getElem_cons_zero,List.getElem_cons_succ]
      refine wpAnyH_ready (rs:=[3]) (by kernel_rfl) (by simp) ?_
      refine AllReadyH.cons (o:=_) rfl (fun K hK=>?_) AllReadyH.nil
      ·skip
       go_simp
       refine (Qo b bc _ _ _ _ (Hrt1.out _ HQ21.out.below) (Hrc1.out _ HQ21.out.below) (by omega) (by omega)).mono ?_
       rintro e u22 ⟨ve22,vk22,vc22,rfl,hrd22,hsl22,hb22⟩
       obtain⟨A22u,n22u,B22u,m22u,e1,e2⟩:=Ql hrd22
       subst e1
       subst e2
       obtain⟨D22u,k22u,e3,_⟩:=id hsl22
       subst e3
       have HQ22:=hid (HQ21.out.getK hb22 (QJ (fun _ _=>rfl) (fun _ h=>h) _ _ _ hrd22) hsl22.dn)
       clear hrd22 hsl22 hb22
       refine hK.out _ _ ?_ (fun hHeld22=>?_)
       ·exact HSS.out _ HQ22.out.below
       clear hK K
       try simp only[Act.put,List.setIfInBounds_toArray,List.set_cons_zero,List.set_cons_succ,List.getElem_toArray,List.getElem_cons_zero,List.getElem_cons_succ]
       have g1:=hid (HQ22.out.bx _ rfl).2
       have g2:=hid (HQ22.out.byy _ rfl).2
       have hlx:=lt_of_block g1.out
       have hly:=lt_of_block g2.out
       have hxy:u0.heap.size≠u18.heap.size:=fun e=>HQ22.out.ne _ rfl (by rw[e])
       have hyx:u18.heap.size≠u0.heap.size:=fun e=>HQ22.out.ne _ rfl (by rw[e])
       have k0:=Qa (i:=0) g1.out
       have y0:=Qa (i:=0) g2.out
       have z0:=Qb (i:=0) g1.out
       have x0:=Qb (i:=0) g2.out
       have k1:=Qa (i:=1) g1.out
       have y1:=Qa (i:=1) g2.out
       have z1:=Qb (i:=1) g1.out
       have x1:=Qb (i:=1) g2.out
       have k2:=Qa (i:=2) g1.out
       have y2:=Qa (i:=2) g2.out
       have z2:=Qb (i:=2) g1.out
       have x2:=Qb (i:=2) g2.out
       simp only[List.getElem?_toArray,List.getElem?_cons_zero,List.getElem?_cons_succ]at k0 k1 k2 y0 y1 y2
       have HFI:=hid HQ22.out.fin
       refine wpAnyH_done (by kernel_rfl) ?_ _
       change wpList _ _ _ _ _ _
       go_wp2_with fail
       change wpList _ _ _ _ _ _
       go_wp2_with fail
       go_meet
       case rel=>exact HFI.out
    ·skip
     have HQ23:=hid HQ17.out.newY
     obtain⟨u23,hu23⟩:∃ z,z=u17.alloc (.cells #[.slice none 0 0,.slice none 0 0,.slice none 0 0] 29 (0,0)):=⟨_,rfl⟩
     rw[←hu23]at HQ23
     go_simp
     rw[←hu23]
     clear hu23
     refine hK.out _ _ ?_ (fun hHeld23=>?_)
     ·exact HSS.out _ HQ23.out.below
     clear hK K
     try simp only[Act.put,List.setIfInBounds_toArray,List.set_cons_zero,List.set_cons_succ,List.getElem_toArray,List.getElem_cons_zero,List.getElem_cons_succ]
     refine wpAnyH_ready (rs:=[1]) (by kernel_rfl) (by simp) ?_
     refine AllReadyH.cons (o:=_) rfl (fun K hK=>?_) AllReadyH.nil
     ·skip
      go_simp
      refine (Qo a ac _ _ _ _ (Hrt0.out _ HQ23.out.below) (Hrc0.out _ HQ23.out.below) (by omega) (by omega)).mono ?_
      rintro e u24 ⟨ve24,vk24,vc24,rfl,hrd24,hsl24,hb24⟩
      obtain⟨A24u,n24u,B24u,m24u,e1,e2⟩:=Ql hrd24
      subst e1
      subst e2
      obtain⟨D24u,k24u,e3,_⟩:=id hsl24
      subst e3
      have HQ24:=hid (HQ23.out.getJ hb24 (QJ (fun _ _=>rfl) (fun _ h=>h) _ _ _ hrd24) hsl24.dn)
      clear hrd24 hsl24 hb24
      refine hK.out _ _ ?_ (fun hHeld24=>?_)
      ·exact HSS.out _ HQ24.out.below
      clear hK K
      try simp only[Act.put,List.setIfInBounds_toArray,List.set_cons_zero,List.set_cons_succ,List.getElem_toArray,List.getElem_cons_zero,List.getElem_cons_succ]
      refine wpAnyH_ready (rs:=[3]) (by kernel_rfl) (by simp) ?_
      refine AllReadyH.cons (o:=_) rfl (fun K hK=>?_) AllReadyH.nil
      ·skip
       go_simp
       refine (Qo b bc _ _ _ _ (Hrt1.out _ HQ24.out.below) (Hrc1.out _ HQ24.out.below) (by omega) (by omega)).mono ?_
       rintro e u25 ⟨ve25,vk25,vc25,rfl,hrd25,hsl25,hb25⟩
       obtain⟨A25u,n25u,B25u,m25u,e1,e2⟩:=Ql hrd25
       subst e1
       subst e2
       obtain⟨D25u,k25u,e3,_⟩:=id hsl25
       subst e3
       have HQ25:=hid (HQ24.out.getK hb25 (QJ (fun _ _=>rfl) (fun _ h=>h) _ _ _ hrd25) hsl25.dn)
       clear hrd25 hsl25 hb25
       refine hK.out _ _ ?_ (fun hHeld25=>?_)
       ·exact HSS.out _ HQ25.out.below
       clear hK K
       try simp only[Act.put,List.setIfInBounds_toArray,List.set_cons_zero,List.set_cons_succ,List.getElem_toArray,List.getElem_cons_zero,List.getElem_cons_succ]
       have g1:=hid (HQ25.out.bx _ rfl).2
       have g2:=hid (HQ25.out.byy _ rfl).2
       have hlx:=lt_of_block g1.out
       have hly:=lt_of_block g2.out
       have hxy:u0.heap.size≠u17.heap.size:=fun e=>HQ25.out.ne _ rfl (by rw[e])
       have hyx:u17.heap.size≠u0.heap.size:=fun e=>HQ25.out.ne _ rfl (by rw[e])
       have k0:=Qa (i:=0) g1.out
       have y0:=Qa (i:=0) g2.out
       have z0:=Qb (i:=0) g1.out
       have x0:=Qb (i:=0) g2.out
       have k1:=Qa (i:=1) g1.out
       have y1:=Qa (i:=1) g2.out
       have z1:=Qb (i:=1) g1.out
       have x1:=Qb (i:=1) g2.out
       have k2:=Qa (i:=2) g1.out
       have y2:=Qa (i:=2) g2.out
       have z2:=Qb (i:=2) g1.out
       have x2:=Qb (i:=2) g2.out
       simp only[List.getElem?_toArray,List.getElem?_cons_zero,List.getElem?_cons_succ]at k0 k1 k2 y0 y1 y2
       have HFI:=hid HQ25.out.fin
       refine wpAnyH_done (by kernel_rfl) ?_ _
       change wpList _ _ _ _ _ _
       go_wp2_with fail
       change wpList _ _ _ _ _ _
       go_wp2_with fail
       go_meet
       case rel=>exact HFI.out
   ·skip
    have HQ26:=hid HQ0.out.newY
    obtain⟨u26,hu26⟩:∃ z,z=u0.alloc (.cells #[.slice none 0 0,.slice none 0 0,.slice none 0 0] 29 (0,0)):=⟨_,rfl⟩
    rw[←hu26]at HQ26
    go_simp
    rw[←hu26]
    clear hu26
    refine hK.out _ _ ?_ (fun hHeld26=>?_)
    ·exact HSS.out _ HQ26.out.below
    clear hK K
    try simp only[Act.put,List.setIfInBounds_toArray,List.set_cons_zero,List.set_cons_succ,List.getElem_toArray,List.getElem_cons_zero,List.getElem_cons_succ]
    refine wpAnyH_ready (rs:=[1,4]) (by kernel_rfl) (by simp) ?_
    refine AllReadyH.cons (o:=_) rfl (fun K hK=>?_) (AllReadyH.cons (o:=_) rfl (fun K hK=>?_) AllReadyH.nil)
    ·skip
     go_simp
     refine (Qo a ac _ _ _ _ (Hrt0.out _ HQ26.out.below) (Hrc0.out _ HQ26.out.below) (by omega) (by omega)).mono ?_
     rintro e u27 ⟨ve27,vk27,vc27,rfl,hrd27,hsl27,hb27⟩
     obtain⟨A27u,n27u,B27u,m27u,e1,e2⟩:=Ql hrd27
     subst e1
     subst e2
     obtain⟨D27u,k27u,e3,_⟩:=id hsl27
     subst e3
     have HQ27:=hid (HQ26.out.getJ hb27 (QJ (fun _ _=>rfl) (fun _ h=>h) _ _ _ hrd27) hsl27.dn)
     clear hrd27 hsl27 hb27
     refine hK.out _ _ ?_ (fun hHeld27=>?_)
     ·exact HSS.out _ HQ27.out.below
     clear hK K
     try simp only[Act.put,List.setIfInBounds_toArray,List.set_cons_zero,List.set_cons_succ,List.getElem_toArray,List.getElem_cons_zero,List.getElem_cons_succ]
     refine wpAnyH_ready (rs:=[3,4]) (by kernel_rfl) (by simp) ?_
     refine AllReadyH.cons (o:=_) rfl (fun K hK=>?_) (AllReadyH.cons (o:=_) rfl (fun K hK=>?_) AllReadyH.nil)
     ·skip
      go_simp
      refine (Qo b bc _ _ _ _ (Hrt1.out _ HQ27.out.below) (Hrc1.out _ HQ27.out.below) (by omega) (by omega)).mono ?_
      rintro e u28 ⟨ve28,vk28,vc28,rfl,hrd28,hsl28,hb28⟩
      obtain⟨A28u,n28u,B28u,m28u,e1,e2⟩:=Ql hrd28
      subst e1
      subst e2
      obtain⟨D28u,k28u,e3,_⟩:=id hsl28
      subst e3
      have HQ28:=hid (HQ27.out.getK hb28 (QJ (fun _ _=>rfl) (fun _ h=>h) _ _ _ hrd28) hsl28.dn)
      clear hrd28 hsl28 hb28
      refine hK.out _ _ ?_ (fun hHeld28=>?_)
      ·exact HSS.out _ HQ28.out.below
      clear hK K
      try simp only[Act.put,List.setIfInBounds_toArray,List.set_cons_zero,List.set_cons_succ,List.getElem_toArray,List.getElem_cons_zero,List.getElem_cons_succ]
      refine wpAnyH_ready (rs:=[4]) (by kernel_rfl) (by simp) ?_
      refine AllReadyH.cons (o:=_) rfl (fun K hK=>?_) AllReadyH.nil
      ·skip
       have HQ29:=hid HQ28.out.newX
       obtain⟨u29,hu29⟩:∃ z,z=u28.alloc (.cells #[.slice none 0 0,.slice none 0 0,.slice none 0 0] 29 (0,0)):=⟨_,rfl⟩
       rw[←hu29]at HQ29
       go_simp
       rw[←hu29]
       clear hu29
       refine hK.out _ _ ?_ (fun hHeld29=>?_)
       ·exact HSS.out _ HQ29.out.below
       clear hK K
       try simp only[Act.put,List.setIfInBounds_toArray,List.set_cons_zero,List.set_cons_succ,List.getElem_toArray,List.getElem_cons_zero,List.getElem_cons_succ]
       have g1:=hid (HQ29.out.bx _ rfl).2
       have g2:=hid (HQ29.out.byy _ rfl).2
       have hlx:=lt_of_block g1.out
       have hly:=lt_of_block g2.out
       have hxy:u28.heap.size≠u0.heap.size:=fun e=>HQ29.out.ne _ rfl (by rw[e])
       have hyx:u0.heap.size≠u28.heap.size:=fun e=>HQ29.out.ne _ rfl (by rw[e])
       have k0:=Qa (i:=0) g1.out
       have y0:=Qa (i:=0) g2.out
       have z0:=Qb (i:=0) g1.out
       have x0:=Qb (i:=0) g2.out
       have k1:=Qa (i:=1) g1.out
       have y1:=Qa (i:=1) g2.out
       have z1:=Qb (i:=1) g1.out
       have x1:=Qb (i:=1) g2.out
       have k2:=Qa (i:=2) g1.out
       have y2:=Qa (i:=2) g2.out
       have z2:=Qb (i:=2) g1.out
       have x2:=Qb (i:=2) g2.out
       simp only[List.getElem?_toArray,List.getElem?_cons_zero,List.getElem?_cons_succ]at k0 k1 k2 y0 y1 y2
       have HFI:=hid HQ29.out.fin
       refine wpAnyH_done (by kernel_rfl) ?_ _
       change wpList _ _ _ _ _ _
       go_wp2_with fail
       change wpList _ _ _ _ _ _
       go_wp2_with fail
       go_meet
       case rel=>exact HFI.out
     ·skip
      have HQ30:=hid HQ27.out.newX
      obtain⟨u30,hu30⟩:∃ z,z=u27.alloc (.cells #[.slice none 0 0,.slice none 0 0,.slice none 0 0] 29 (0,0)):=⟨_,rfl⟩
      rw[←hu30]at HQ30
      go_simp
      rw[←hu30]
      clear hu30
      refine hK.out _ _ ?_ (fun hHeld30=>?_)
      ·exact HSS.out _ HQ30.out.below
      clear hK K
      try simp only[Act.put,List.setIfInBounds_toArray,List.set_cons_zero,List.set_cons_succ,List.getElem_toArray,List.getElem_cons_zero,List.getElem_cons_succ]
      refine wpAnyH_ready (rs:=[3]) (by kernel_rfl) (by simp) ?_
      refine AllReadyH.cons (o:=_) rfl (fun K hK=>?_) AllReadyH.nil
      ·skip
       go_simp
       refine (Qo b bc _ _ _ _ (Hrt1.out _ HQ30.out.below) (Hrc1.out _ HQ30.out.below) (by omega) (by omega)).mono ?_
       rintro e u31 ⟨ve31,vk31,vc31,rfl,hrd31,hsl31,hb31⟩
       obtain⟨A31u,n31u,B31u,m31u,e1,e2⟩:=Ql hrd31
       subst e1
       subst e2
       obtain⟨D31u,k31u,e3,_⟩:=id hsl31
       subst e3
       have HQ31:=hid (HQ30.out.getK hb31 (QJ (fun _ _=>rfl) (fun _ h=>h) _ _ _ hrd31) hsl31.dn)
       clear hrd31 hsl31 hb31
       refine hK.out _ _ ?_ (fun hHeld31=>?_)
       ·exact HSS.out _ HQ31.out.below
       clear hK K
       try simp only[Act.put,List.setIfInBounds_toArray,List.set_cons_zero,List.set_cons_succ,List.getElem_toArray,List.getElem_cons_zero,List.getElem_cons_succ]
       have g1:=hid (HQ31.out.bx _ rfl).2
       have g2:=hid (HQ31.out.byy _ rfl).2
       have hlx:=lt_of_block g1.out
       have hly:=lt_of_block g2.out
       have hxy:u27.heap.size≠u0.heap.size:=fun e=>HQ31.out.ne _ rfl (by rw[e])
       have hyx:u0.heap.size≠u27.heap.size:=fun e=>HQ31.out.ne _ rfl (by rw[e])
       have k0:=Qa (i:=0) g1.out
       have y0:=Qa (i:=0) g2.out
       have z0:=Qb (i:=0) g1.out
       have x0:=Qb (i:=0) g2.out
       have k1:=Qa (i:=1) g1.out
       have y1:=Qa (i:=1) g2.out
       have z1:=Qb (i:=1) g1.out
       have x1:=Qb (i:=1) g2.out
       have k2:=Qa (i:=2) g1.out
       have y2:=Qa (i:=2) g2.out
       have z2:=Qb (i:=2) g1.out
       have x2:=Qb (i:=2) g2.out
       simp only[List.getElem?_toArray,List.getElem?_cons_zero,List.getElem?_cons_succ]at k0 k1 k2 y0 y1 y2
       have HFI:=hid HQ31.out.fin
       refine wpAnyH_done (by kernel_rfl) ?_ _
       change wpList _ _ _ _ _ _
       go_wp2_with fail
       change wpList _ _ _ _ _ _
       go_wp2_with fail
       go_meet
       case rel=>exact HFI.out
    ·skip
     have HQ32:=hid HQ26.out.newX
     obtain⟨u32,hu32⟩:∃ z,z=u26.alloc (.cells #[.slice none 0 0,.slice none 0 0,.slice none 0 0] 29 (0,0)):=⟨_,rfl⟩
     rw[←hu32]at HQ32
     go_simp
     rw[←hu32]
     clear hu32
     refine hK.out _ _ ?_ (fun hHeld32=>?_)
     ·exact HSS.out _ HQ32.out.below
     clear hK K
     try simp only[Act.put,List.setIfInBounds_toArray,List.set_cons_zero,List.set_cons_succ,List.getElem_toArray,List.getElem_cons_zero,List.getElem_cons_succ]
     refine wpAnyH_ready (rs:=[1]) (by kernel_rfl) (by simp) ?_
     refine AllReadyH.cons (o:=_) rfl (fun K hK=>?_) AllReadyH.nil
     ·skip
      go_simp
      refine (Qo a ac _ _ _ _ (Hrt0.out _ HQ32.out.below) (Hrc0.out _ HQ32.out.below) (by omega) (by omega)).mono ?_
      rintro e u33 ⟨ve33,vk33,vc33,rfl,hrd33,hsl33,hb33⟩
      obtain⟨A33u,n33u,B33u,m33u,e1,e2⟩:=Ql hrd33
      subst e1
      subst e2
      obtain⟨D33u,k33u,e3,_⟩:=id hsl33
      subst e3
      have HQ33:=hid (HQ32.out.getJ hb33 (QJ (fun _ _=>rfl) (fun _ h=>h) _ _ _ hrd33) hsl33.dn)
      clear hrd33 hsl33 hb33
      refine hK.out _ _ ?_ (fun hHeld33=>?_)
      ·exact HSS.out _ HQ33.out.below
      clear hK K
      try simp only[Act.put,List.setIfInBounds_toArray,List.set_cons_zero,List.set_cons_succ,List.getElem_toArray,List.getElem_cons_zero,List.getElem_cons_succ]
      refine wpAnyH_ready (rs:=[3]) (by kernel_rfl) (by simp) ?_
      refine AllReadyH.cons (o:=_) rfl (fun K hK=>?_) AllReadyH.nil
      ·skip
       go_simp
       refine (Qo b bc _ _ _ _ (Hrt1.out _ HQ33.out.below) (Hrc1.out _ HQ33.out.below) (by omega) (by omega)).mono ?_
       rintro e u34 ⟨ve34,vk34,vc34,rfl,hrd34,hsl34,hb34⟩
       obtain⟨A34u,n34u,B34u,m34u,e1,e2⟩:=Ql hrd34
       subst e1
       subst e2
       obtain⟨D34u,k34u,e3,_⟩:=id hsl34
       subst e3
       have HQ34:=hid (HQ33.out.getK hb34 (QJ (fun _ _=>rfl) (fun _ h=>h) _ _ _ hrd34) hsl34.dn)
       clear hrd34 hsl34 hb34
       refine hK.out _ _ ?_ (fun hHeld34=>?_)
       ·exact HSS.out _ HQ34.out.below
       clear hK K
       try simp only[Act.put,List.setIfInBounds_toArray,List.set_cons_zero,List.set_cons_succ,List.getElem_toArray,List.getElem_cons_zero,List.getElem_cons_succ]
       have g1:=hid (HQ34.out.bx _ rfl).2
       have g2:=hid (HQ34.out.byy _ rfl).2
       have hlx:=lt_of_block g1.out
       have hly:=lt_of_block g2.out
       have hxy:u26.heap.size≠u0.heap.size:=fun e=>HQ34.out.ne _ rfl (by rw[e])
       have hyx:u0.heap.size≠u26.heap.size:=fun e=>HQ34.out.ne _ rfl (by rw[e])
       have k0:=Qa (i:=0) g1.out
       have y0:=Qa (i:=0) g2.out
       have z0:=Qb (i:=0) g1.out
       have x0:=Qb (i:=0) g2.out
       have k1:=Qa (i:=1) g1.out
       have y1:=Qa (i:=1) g2.out
       have z1:=Qb (i:=1) g1.out
       have x1:=Qb (i:=1) g2.out
       have k2:=Qa (i:=2) g1.out
       have y2:=Qa (i:=2) g2.out
       have z2:=Qb (i:=2) g1.out
       have x2:=Qb (i:=2) g2.out
       simp only[List.getElem?_toArray,List.getElem?_cons_zero,List.getElem?_cons_succ]at k0 k1 k2 y0 y1 y2
       have HFI:=hid HQ34.out.fin
       refine wpAnyH_done (by kernel_rfl) ?_ _
       change wpList _ _ _ _ _ _
       go_wp2_with fail
       change wpList _ _ _ _ _ _
       go_wp2_with fail
       go_meet
       case rel=>exact HFI.out
  case rest=>
   obtain⟨gp,gq,xp,yp,zp,xq,yq,zq,rfl,rfl,hGp,hGq,hrp,hsp,hrq,hsq,hbz⟩:=hcut
   obtain⟨Ap,np,Bp,mp,rfl,rfl⟩:=Qk hrp
   obtain⟨Dp,kp,rfl,_⟩:=id hsp
   obtain⟨Aq,nq,Bq,mq,rfl,rfl⟩:=Qk hrq
   obtain⟨Dq,kq,rfl,_⟩:=id hsq
   have hlp:=lt_of_block hGp
   have hlq:=lt_of_block hGq
   obtain⟨wz,hwz⟩:∃ z:World,z=wc:=⟨wc,rfl⟩
   subst hwz
   have HSZ:Hid ((w.heap.size+2)<=wz.heap.size):=by
    obtain⟨_,z,_,_,_,_,_,_,_,_,_,_,_⟩:=HX0.out _ hbz
    exact z
   have HX1:Hid (∀ W,Below wz.heap.size wz W->(wz.heap.size<=(W).heap.size/\Below wz.heap.size wz W/\a.rd W (W).heap.size (.slice Ap a.es.length np) (.slice Bp a.ks.length mp)/\SlP W (W).heap.size 3 SpE (.slice Dp ac.length kp) ac/\(W).cell? ⟨gp,0,none⟩=some (.slice Ap a.es.length np)/\(W).cell? ⟨gp,1,none⟩=some (.slice Bp a.ks.length mp)/\(W).cell? ⟨gp,2,none⟩=some (.slice Dp ac.length kp)/\b.rd W (W).heap.size (.slice Aq b.es.length nq) (.slice Bq b.ks.length mq)/\SlP W (W).heap.size 3 SpE (.slice Dq bc.length kq) bc/\(W).cell? ⟨gq,0,none⟩=some (.slice Aq b.es.length nq)/\(W).cell? ⟨gq,1,none⟩=some (.slice Bq b.ks.length mq)/\(W).cell? ⟨gq,2,none⟩=some (.slice Dq bc.length kq)/\Below w.heap.size w W/\w.heap.size+2<=(W).heap.size/\a.rd W (W).heap.size (.slice A0 a.es.length n0) (.slice B0 a.ks.length m0)/\SlP W (W).heap.size 3 SpE (.slice D0 ac.length k0) ac/\b.rd W (W).heap.size (.slice A1 b.es.length n1) (.slice B1 b.ks.length m1)/\SlP W (W).heap.size 3 SpE (.slice D1 bc.length k1) bc/\SlP W (W).heap.size 1 StE (.slice A2 keys.length n2) keys/\(W).cell? ⟨w.heap.size,0,none⟩=some (.slice A0 a.es.length n0)/\(W).cell? ⟨w.heap.size,1,none⟩=some (.slice B0 a.ks.length m0)/\(W).cell? ⟨w.heap.size,2,none⟩=some (.slice D0 ac.length k0)/\(W).cell? ⟨(w.heap.size+1),0,none⟩=some (.slice A1 b.es.length n1)/\(W).cell? ⟨(w.heap.size+1),1,none⟩=some (.slice B1 b.ks.length m1)/\(W).cell? ⟨(w.heap.size+1),2,none⟩=some (.slice D1 bc.length k1))):=fun W hW=>by
    have g0:=(hW.block gp hlp).trans hGp
    have g1:=(hW.block gq hlq).trans hGq
    exact⟨hW.size,hW,Qi hW hW.size _ _ _ hrp,hsp.imp hW hW.size (fun _ _ _ h=>h),Qa (i:=0) g0,Qa (i:=1) g0,Qa (i:=2) g0,Qi hW hW.size _ _ _ hrq,hsq.imp hW hW.size (fun _ _ _ h=>h),Qa (i:=0) g1,Qa (i:=1) g1,Qa (i:=2) g1,HX0.out W (hbz.trans (hW.mono HSZ.out))⟩
   clear hrp hsp hrq hsq hGp hGq
   obtain⟨hs_z,hB_z,rt_p,rc_p,c0_p,c1_p,c2_p,rt_q,rc_q,c0_q,c1_q,c2_q,hB,hs,rt0,rc0,rt1,rc1,rl2,c00,c01,c02,c10,c11,c12⟩:=HX1.out _ (Below.refl _ _)
   obtain⟨OT,OC,OE,HO1,HO2,HO3⟩:∃ (T:Tr) (C:List Sp) (E:Int),Hid (conT a ac keys=T)/\Hid (conC a ac=C)/\Hid (conE a ac=E):=⟨_,_,_,rfl,rfl,rfl⟩
   obtain⟨CT,CC,HC1x,HC2x⟩:∃ (T:Tr) (C:List Sp),Hid (cloT b bc=T)/\Hid (cloC b bc=C):=⟨_,_,rfl,rfl⟩
   obtain⟨JT,JC,HJ1,HJ2⟩:∃ (T:Tr) (C:List Sp),Hid (jnT a b ac bc=T)/\Hid (jnC a b ac bc=C):=⟨_,_,rfl,rfl⟩
   go_wp2_with fail
   refine (KN a ac keys _ _ _ _ _ rt0 rc0 rl2 (by omega) (by omega)).mono ?_
   rw[HO1.out,HO2.out,HO3.out]
   rintro e w3 ⟨xe3,xk3,xc3,rfl,hrd3,hsl3,hb⟩
   obtain⟨A3x,n3x,B3x,m3x,rfl,rfl⟩:=Ql hrd3
   obtain⟨D3x,k3x,rfl,_⟩:=id hsl3
   have hzb3:wz.heap.size<=(wz).heap.size:=(by first|omega|(simp;done)|(simp;omega))
   have HRU3:=hid (Qu (ok':=fun b=>wz.heap.size<=b/\b<w3.heap.size) (fun _ _=>rfl) (fun b hb=>⟨Nat.le_trans hzb3 hb.1,hb.2⟩) _ _ _ hrd3)
   have HSU3:=hid (hsl3.up (ok':=fun b=>wz.heap.size<=b/\b<w3.heap.size) (fun _ _=>rfl) (fun b hb=>⟨Nat.le_trans hzb3 hb.1,hb.2⟩) fun _ _ _ h=>h)
   replace hrd3:=QJ (fun _ _=>rfl) (fun _ h=>h) _ _ _ hrd3
   replace hsl3:=hsl3.dn
   have hbk3:Hid (Below wz.heap.size wz w3):=hid (hb.mono (by first|omega|(simp;done)|(simp;omega)))
   clear hb
   clear hs_z hB_z rt_p rc_p c0_p c1_p c2_p rt_q rc_q c0_q c1_q c2_q hB hs rt0 rc0 rt1 rc1 rl2 c00 c01 c02 c10 c11 c12
   obtain⟨hs_z,hB_z,rt_p,rc_p,c0_p,c1_p,c2_p,rt_q,rc_q,c0_q,c1_q,c2_q,hB,hs,rt0,rc0,rt1,rc1,rl2,c00,c01,c02,c10,c11,c12⟩:=HX1.out _ hbk3.out
   have hlt3349:w.heap.size<w3.heap.size:=by omega
   have hne3349:w.heap.size≠w3.heap.size:=by omega
   have hnr3349:w3.heap.size≠w.heap.size:=by omega
   have hlt3185:(w.heap.size+1)<w3.heap.size:=by omega
   have hne3185:(w.heap.size+1)≠w3.heap.size:=by omega
   have hnr3185:w3.heap.size≠(w.heap.size+1):=by omega
   have hlt3995:gp<w3.heap.size:=by omega
   have hne3995:gp≠w3.heap.size:=by omega
   have hnr3995:w3.heap.size≠gp:=by omega
   have hlt3991:gq<w3.heap.size:=by omega
   have hne3991:gq≠w3.heap.size:=by omega
   have hnr3991:w3.heap.size≠gq:=by omega
   have HX2:Hid (∀ W,Below (w3.heap.size+1) (w3.alloc (.cells #[.slice A3x OT.es.length n3x,.slice B3x OT.ks.length m3x,.slice D3x OC.length k3x] 29)) W->(w3.heap.size+1<=(W).heap.size/\OT.rd W (W).heap.size (.slice A3x OT.es.length n3x) (.slice B3x OT.ks.length m3x)/\SlP W (W).heap.size 3 SpE (.slice D3x OC.length k3x) OC/\OT.rdu W (fun b=>wz.heap.size<=b/\b<(W).heap.size) (.slice A3x OT.es.length n3x) (.slice B3x OT.ks.length m3x)/\SlU W (fun b=>wz.heap.size<=b/\b<(W).heap.size) 3 SpE (.slice D3x OC.length k3x) OC/\(W).cell? ⟨w3.heap.size,0,none⟩=some (.slice A3x OT.es.length n3x)/\(W).cell? ⟨w3.heap.size,1,none⟩=some (.slice B3x OT.ks.length m3x)/\(W).cell? ⟨w3.heap.size,2,none⟩=some (.slice D3x OC.length k3x)/\wz.heap.size<=(W).heap.size/\Below wz.heap.size wz W/\a.rd W (W).heap.size (.slice Ap a.es.length np) (.slice Bp a.ks.length mp)/\SlP W (W).heap.size 3 SpE (.slice Dp ac.length kp) ac/\(W).cell? ⟨gp,0,none⟩=some (.slice Ap a.es.length np)/\(W).cell? ⟨gp,1,none⟩=some (.slice Bp a.ks.length mp)/\(W).cell? ⟨gp,2,none⟩=some (.slice Dp ac.length kp)/\b.rd W (W).heap.size (.slice Aq b.es.length nq) (.slice Bq b.ks.length mq)/\SlP W (W).heap.size 3 SpE (.slice Dq bc.length kq) bc/\(W).cell? ⟨gq,0,none⟩=some (.slice Aq b.es.length nq)/\(W).cell? ⟨gq,1,none⟩=some (.slice Bq b.ks.length mq)/\(W).cell? ⟨gq,2,none⟩=some (.slice Dq bc.length kq)/\Below w.heap.size w W/\w.heap.size+2<=(W).heap.size/\a.rd W (W).heap.size (.slice A0 a.es.length n0) (.slice B0 a.ks.length m0)/\SlP W (W).heap.size 3 SpE (.slice D0 ac.length k0) ac/\b.rd W (W).heap.size (.slice A1 b.es.length n1) (.slice B1 b.ks.length m1)/\SlP W (W).heap.size 3 SpE (.slice D1 bc.length k1) bc/\SlP W (W).heap.size 1 StE (.slice A2 keys.length n2) keys/\(W).cell? ⟨w.heap.size,0,none⟩=some (.slice A0 a.es.length n0)/\(W).cell? ⟨w.heap.size,1,none⟩=some (.slice B0 a.ks.length m0)/\(W).cell? ⟨w.heap.size,2,none⟩=some (.slice D0 ac.length k0)/\(W).cell? ⟨(w.heap.size+1),0,none⟩=some (.slice A1 b.es.length n1)/\(W).cell? ⟨(w.heap.size+1),1,none⟩=some (.slice B1 b.ks.length m1)/\(W).cell? ⟨(w.heap.size+1),2,none⟩=some (.slice D1 bc.length k1))):=fun W hW=>by
    have g0:=(hW.block w3.heap.size (by omega)).trans (Qf rfl)
    have hB:Below w3.heap.size w3 W:=((Below.refl _ w3).alloc (Nat.le_refl _) _).trans (hW.mono (by omega))
    exact⟨by have:=hW.size;simpa using this,XL hrd3 (fun b hb=>hb.2) hB,hsl3.slp (fun b hb=>hb.2) hB,Qu (fun b hb=>hB.block b hb.2) (fun b hb=>⟨hb.1,Nat.lt_of_lt_of_le hb.2 hB.size⟩) _ _ _ HRU3.out,HSU3.out.up (fun b hb=>hB.block b hb.2) (fun b hb=>⟨hb.1,Nat.lt_of_lt_of_le hb.2 hB.size⟩) (fun _ _ _ h=>h),Qa (i:=0) g0,Qa (i:=1) g0,Qa (i:=2) g0,HX1.out W (hbk3.out.trans (hB.mono (by omega)))⟩
   clear hrd3 hsl3
   go_wp2_with fail
   clear hs_z hB_z rt_p rc_p c0_p c1_p c2_p rt_q rc_q c0_q c1_q c2_q hB hs rt0 rc0 rt1 rc1 rl2 c00 c01 c02 c10 c11 c12
   obtain⟨hs_o,rt_o,rc_o,ru_o,rv_o,c0_o,c1_o,c2_o,hs_z,hB_z,rt_p,rc_p,c0_p,c1_p,c2_p,rt_q,rc_q,c0_q,c1_q,c2_q,hB,hs,rt0,rc0,rt1,rc1,rl2,c00,c01,c02,c10,c11,c12⟩:=HX2.out _ (Below.refl _ _)
   refine (JH b bc _ _ _ _ rt1 rc1 (by omega) (by omega)).mono ?_
   rw[HC1x.out,HC2x.out]
   rintro e w4 ⟨xe4,xk4,xc4,rfl,hrd4,hsl4,hb⟩
   obtain⟨A4x,n4x,B4x,m4x,rfl,rfl⟩:=Ql hrd4
   obtain⟨D4x,k4x,rfl,_⟩:=id hsl4
   have hzb4:wz.heap.size<=((w3.alloc (.cells #[.slice A3x OT.es.length n3x,.slice B3x OT.ks.length m3x,.slice D3x OC.length k3x] 29))).heap.size:=(by first|omega|(simp;done)|(simp;omega))
   have HRU4:=hid (Qu (ok':=fun b=>wz.heap.size<=b/\b<w4.heap.size) (fun _ _=>rfl) (fun b hb=>⟨Nat.le_trans hzb4 hb.1,hb.2⟩) _ _ _ hrd4)
   have HSU4:=hid (hsl4.up (ok':=fun b=>wz.heap.size<=b/\b<w4.heap.size) (fun _ _=>rfl) (fun b hb=>⟨Nat.le_trans hzb4 hb.1,hb.2⟩) fun _ _ _ h=>h)
   replace hrd4:=QJ (fun _ _=>rfl) (fun _ h=>h) _ _ _ hrd4
   replace hsl4:=hsl4.dn
   have hbk4:Hid (Below (w3.heap.size+1) (w3.alloc (.cells #[.slice A3x OT.es.length n3x,.slice B3x OT.ks.length m3x,.slice D3x OC.length k3x] 29)) w4):=hid (hb.mono (by first|omega|(simp;done)|(simp;omega)))
   clear hb
   clear hs_o rt_o rc_o ru_o rv_o c0_o c1_o c2_o hs_z hB_z rt_p rc_p c0_p c1_p c2_p rt_q rc_q c0_q c1_q c2_q hB hs rt0 rc0 rt1 rc1 rl2 c00 c01 c02 c10 c11 c12
   obtain⟨hs_o,rt_o,rc_o,ru_o,rv_o,c0_o,c1_o,c2_o,hs_z,hB_z,rt_p,rc_p,c0_p,c1_p,c2_p,rt_q,rc_q,c0_q,c1_q,c2_q,hB,hs,rt0,rc0,rt1,rc1,rl2,c00,c01,c02,c10,c11,c12⟩:=HX2.out _ hbk4.out
   have hlt4349:w.heap.size<w4.heap.size:=by omega
   have hne4349:w.heap.size≠w4.heap.size:=by omega
   have hnr4349:w4.heap.size≠w.heap.size:=by omega
   have hlt4185:(w.heap.size+1)<w4.heap.size:=by omega
   have hne4185:(w.heap.size+1)≠w4.heap.size:=by omega
   have hnr4185:w4.heap.size≠(w.heap.size+1):=by omega
   have hlt4995:gp<w4.heap.size:=by omega
   have hne4995:gp≠w4.heap.size:=by omega
   have hnr4995:w4.heap.size≠gp:=by omega
   have hlt4991:gq<w4.heap.size:=by omega
   have hne4991:gq≠w4.heap.size:=by omega
   have hnr4991:w4.heap.size≠gq:=by omega
   have hlt4694:w3.heap.size<w4.heap.size:=by omega
   have hne4694:w3.heap.size≠w4.heap.size:=by omega
   have hnr4694:w4.heap.size≠w3.heap.size:=by omega
   have HX3:Hid (∀ W,Below (w4.heap.size+1) (w4.alloc (.cells #[.slice A4x CT.es.length n4x,.slice B4x CT.ks.length m4x,.slice D4x CC.length k4x] 29)) W->(w4.heap.size+1<=(W).heap.size/\CT.rd W (W).heap.size (.slice A4x CT.es.length n4x) (.slice B4x CT.ks.length m4x)/\SlP W (W).heap.size 3 SpE (.slice D4x CC.length k4x) CC/\CT.rdu W (fun b=>wz.heap.size<=b/\b<(W).heap.size) (.slice A4x CT.es.length n4x) (.slice B4x CT.ks.length m4x)/\SlU W (fun b=>wz.heap.size<=b/\b<(W).heap.size) 3 SpE (.slice D4x CC.length k4x) CC/\(W).cell? ⟨w4.heap.size,0,none⟩=some (.slice A4x CT.es.length n4x)/\(W).cell? ⟨w4.heap.size,1,none⟩=some (.slice B4x CT.ks.length m4x)/\(W).cell? ⟨w4.heap.size,2,none⟩=some (.slice D4x CC.length k4x)/\w3.heap.size+1<=(W).heap.size/\OT.rd W (W).heap.size (.slice A3x OT.es.length n3x) (.slice B3x OT.ks.length m3x)/\SlP W (W).heap.size 3 SpE (.slice D3x OC.length k3x) OC/\OT.rdu W (fun b=>wz.heap.size<=b/\b<(W).heap.size) (.slice A3x OT.es.length n3x) (.slice B3x OT.ks.length m3x)/\SlU W (fun b=>wz.heap.size<=b/\b<(W).heap.size) 3 SpE (.slice D3x OC.length k3x) OC/\(W).cell? ⟨w3.heap.size,0,none⟩=some (.slice A3x OT.es.length n3x)/\(W).cell? ⟨w3.heap.size,1,none⟩=some (.slice B3x OT.ks.length m3x)/\(W).cell? ⟨w3.heap.size,2,none⟩=some (.slice D3x OC.length k3x)/\wz.heap.size<=(W).heap.size/\Below wz.heap.size wz W/\a.rd W (W).heap.size (.slice Ap a.es.length np) (.slice Bp a.ks.length mp)/\SlP W (W).heap.size 3 SpE (.slice Dp ac.length kp) ac/\(W).cell? ⟨gp,0,none⟩=some (.slice Ap a.es.length np)/\(W).cell? ⟨gp,1,none⟩=some (.slice Bp a.ks.length mp)/\(W).cell? ⟨gp,2,none⟩=some (.slice Dp ac.length kp)/\b.rd W (W).heap.size (.slice Aq b.es.length nq) (.slice Bq b.ks.length mq)/\SlP W (W).heap.size 3 SpE (.slice Dq bc.length kq) bc/\(W).cell? ⟨gq,0,none⟩=some (.slice Aq b.es.length nq)/\(W).cell? ⟨gq,1,none⟩=some (.slice Bq b.ks.length mq)/\(W).cell? ⟨gq,2,none⟩=some (.slice Dq bc.length kq)/\Below w.heap.size w W/\w.heap.size+2<=(W).heap.size/\a.rd W (W).heap.size (.slice A0 a.es.length n0) (.slice B0 a.ks.length m0)/\SlP W (W).heap.size 3 SpE (.slice D0 ac.length k0) ac/\b.rd W (W).heap.size (.slice A1 b.es.length n1) (.slice B1 b.ks.length m1)/\SlP W (W).heap.size 3 SpE (.slice D1 bc.length k1) bc/\SlP W (W).heap.size 1 StE (.slice A2 keys.length n2) keys/\(W).cell? ⟨w.heap.size,0,none⟩=some (.slice A0 a.es.length n0)/\(W).cell? ⟨w.heap.size,1,none⟩=some (.slice B0 a.ks.length m0)/\(W).cell? ⟨w.heap.size,2,none⟩=some (.slice D0 ac.length k0)/\(W).cell? ⟨(w.heap.size+1),0,none⟩=some (.slice A1 b.es.length n1)/\(W).cell? ⟨(w.heap.size+1),1,none⟩=some (.slice B1 b.ks.length m1)/\(W).cell? ⟨(w.heap.size+1),2,none⟩=some (.slice D1 bc.length k1))):=fun W hW=>by
    have g0:=(hW.block w4.heap.size (by omega)).trans (Qf rfl)
    have hB:Below w4.heap.size w4 W:=((Below.refl _ w4).alloc (Nat.le_refl _) _).trans (hW.mono (by omega))
    exact⟨by have:=hW.size;simpa using this,XL hrd4 (fun b hb=>hb.2) hB,hsl4.slp (fun b hb=>hb.2) hB,Qu (fun b hb=>hB.block b hb.2) (fun b hb=>⟨hb.1,Nat.lt_of_lt_of_le hb.2 hB.size⟩) _ _ _ HRU4.out,HSU4.out.up (fun b hb=>hB.block b hb.2) (fun b hb=>⟨hb.1,Nat.lt_of_lt_of_le hb.2 hB.size⟩) (fun _ _ _ h=>h),Qa (i:=0) g0,Qa (i:=1) g0,Qa (i:=2) g0,HX2.out W (hbk4.out.trans (hB.mono (by omega)))⟩
   clear hrd4 hsl4
   go_wp2_with fail
   clear hs_o rt_o rc_o ru_o rv_o c0_o c1_o c2_o hs_z hB_z rt_p rc_p c0_p c1_p c2_p rt_q rc_q c0_q c1_q c2_q hB hs rt0 rc0 rt1 rc1 rl2 c00 c01 c02 c10 c11 c12
   obtain⟨hs_c,rt_c,rc_c,ru_c,rv_c,c0_c,c1_c,c2_c,hs_o,rt_o,rc_o,ru_o,rv_o,c0_o,c1_o,c2_o,hs_z,hB_z,rt_p,rc_p,c0_p,c1_p,c2_p,rt_q,rc_q,c0_q,c1_q,c2_q,hB,hs,rt0,rc0,rt1,rc1,rl2,c00,c01,c02,c10,c11,c12⟩:=HX3.out _ (Below.refl _ _)
   cases hrb:caR b bc
   ·have HRB:=hid hrb
    have hct:CT=.mk [] []:=by rw[←HC1x.out];unfold cloT;rw[hrb];rfl
    have hcc:CC=[]:=by rw[←HC2x.out];unfold cloC;rw[hrb];rfl
    have HCT:=hid hct
    have HCC:=hid hcc
    have HALL:Hid (([(b,bc)]:List Kn).all (fun x=>caR x.1 x.2)=false):=by unfold Hid;simp[hrb]
    clear hct hcc hrb
    go_wp2_with fail
    have hsl_le:(w4.heap.size+1)<=((w4.alloc (.cells #[.slice A4x CT.es.length n4x,.slice B4x CT.ks.length m4x,.slice D4x CC.length k4x] 29))).heap.size:=(by first|omega|(simp;done)|(simp;omega))
    clear hs_c rt_c rc_c ru_c rv_c c0_c c1_c c2_c hs_o rt_o rc_o ru_o rv_o c0_o c1_o c2_o hs_z hB_z rt_p rc_p c0_p c1_p c2_p rt_q rc_q c0_q c1_q c2_q hB hs rt0 rc0 rt1 rc1 rl2 c00 c01 c02 c10 c11 c12
    obtain⟨hs_c,rt_c,rc_c,ru_c,rv_c,c0_c,c1_c,c2_c,hs_o,rt_o,rc_o,ru_o,rv_o,c0_o,c1_o,c2_o,hs_z,hB_z,rt_p,rc_p,c0_p,c1_p,c2_p,rt_q,rc_q,c0_q,c1_q,c2_q,hB,hs,rt0,rc0,rt1,rc1,rl2,c00,c01,c02,c10,c11,c12⟩:=HX3.out _ ((Below.refl _ _).alloc hsl_le (.cells #[.slice A1 b.es.length n1,.slice B1 b.ks.length m1,.slice D1 bc.length k1] 29))
    refine (Zh [(b,bc)] _ _ (SlP.oneB (kn_at rt1 rc1) rfl _ (by first|rfl|(simp;done)) (by simp)) (fun x hx=>by simp at hx;subst hx;exact⟨by simp only;omega,by simp only;omega⟩)).mono ?_
    rw[HALL.out]
    rintro e w5 ⟨rfl,hb⟩
    have hbk5:Hid (Below (w4.heap.size+1) (w4.alloc (.cells #[.slice A4x CT.es.length n4x,.slice B4x CT.ks.length m4x,.slice D4x CC.length k4x] 29)) w5):=hid (((Below.refl _ _).alloc hsl_le (.cells #[.slice A1 b.es.length n1,.slice B1 b.ks.length m1,.slice D1 bc.length k1] 29)).trans (hb.mono (by first|omega|(simp;done)|(simp;omega))))
    clear hb
    clear hs_c rt_c rc_c ru_c rv_c c0_c c1_c c2_c hs_o rt_o rc_o ru_o rv_o c0_o c1_o c2_o hs_z hB_z rt_p rc_p c0_p c1_p c2_p rt_q rc_q c0_q c1_q c2_q hB hs rt0 rc0 rt1 rc1 rl2 c00 c01 c02 c10 c11 c12
    obtain⟨hs_c,rt_c,rc_c,ru_c,rv_c,c0_c,c1_c,c2_c,hs_o,rt_o,rc_o,ru_o,rv_o,c0_o,c1_o,c2_o,hs_z,hB_z,rt_p,rc_p,c0_p,c1_p,c2_p,rt_q,rc_q,c0_q,c1_q,c2_q,hB,hs,rt0,rc0,rt1,rc1,rl2,c00,c01,c02,c10,c11,c12⟩:=HX3.out _ hbk5.out
    go_wp2_with fail
    have hsl_le:(w4.heap.size+1)<=(w5).heap.size:=(by first|omega|(simp;done)|(simp;omega))
    clear hs_c rt_c rc_c ru_c rv_c c0_c c1_c c2_c hs_o rt_o rc_o ru_o rv_o c0_o c1_o c2_o hs_z hB_z rt_p rc_p c0_p c1_p c2_p rt_q rc_q c0_q c1_q c2_q hB hs rt0 rc0 rt1 rc1 rl2 c00 c01 c02 c10 c11 c12
    obtain⟨hs_c,rt_c,rc_c,ru_c,rv_c,c0_c,c1_c,c2_c,hs_o,rt_o,rc_o,ru_o,rv_o,c0_o,c1_o,c2_o,hs_z,hB_z,rt_p,rc_p,c0_p,c1_p,c2_p,rt_q,rc_q,c0_q,c1_q,c2_q,hB,hs,rt0,rc0,rt1,rc1,rl2,c00,c01,c02,c10,c11,c12⟩:=HX3.out _ (hbk5.out.alloc hsl_le (.cells #[.slice A1 b.es.length n1,.slice B1 b.ks.length m1,.slice D1 bc.length k1] 29))
    refine (Zh [(b,bc)] _ _ (SlP.oneB (kn_at rt1 rc1) rfl _ (by first|rfl|(simp;done)) (by simp)) (fun x hx=>by simp at hx;subst hx;exact⟨by simp only;omega,by simp only;omega⟩)).mono ?_
    rw[HALL.out]
    rintro e w6 ⟨rfl,hb⟩
    have hbk6:Hid (Below (w4.heap.size+1) (w4.alloc (.cells #[.slice A4x CT.es.length n4x,.slice B4x CT.ks.length m4x,.slice D4x CC.length k4x] 29)) w6):=hid ((hbk5.out.alloc hsl_le (.cells #[.slice A1 b.es.length n1,.slice B1 b.ks.length m1,.slice D1 bc.length k1] 29)).trans (hb.mono (by first|omega|(simp;done)|(simp;omega))))
    clear hb
    clear hs_c rt_c rc_c ru_c rv_c c0_c c1_c c2_c hs_o rt_o rc_o ru_o rv_o c0_o c1_o c2_o hs_z hB_z rt_p rc_p c0_p c1_p c2_p rt_q rc_q c0_q c1_q c2_q hB hs rt0 rc0 rt1 rc1 rl2 c00 c01 c02 c10 c11 c12
    obtain⟨hs_c,rt_c,rc_c,ru_c,rv_c,c0_c,c1_c,c2_c,hs_o,rt_o,rc_o,ru_o,rv_o,c0_o,c1_o,c2_o,hs_z,hB_z,rt_p,rc_p,c0_p,c1_p,c2_p,rt_q,rc_q,c0_q,c1_q,c2_q,hB,hs,rt0,rc0,rt1,rc1,rl2,c00,c01,c02,c10,c11,c12⟩:=HX3.out _ hbk6.out
    go_wp2_with fail
    refine (QF CT (.mk [] []) CC [] _ _ _ _ _ _ _ rt_c Xi rc_c SlP.nil).mono ?_
    rw[show (trEq CT (.mk [] [])&&decide (CC=[]))=true from (by rw[HCT.out,HCC.out];simp[trEq])]
    rintro e w7 ⟨rfl,hb⟩
    have hbk7:Hid (Below (w4.heap.size+1) (w4.alloc (.cells #[.slice A4x CT.es.length n4x,.slice B4x CT.ks.length m4x,.slice D4x CC.length k4x] 29)) w7):=hid (hbk6.out.trans (hb.mono (by first|omega|(simp;done)|(simp;omega))))
    clear hb
    clear hs_c rt_c rc_c ru_c rv_c c0_c c1_c c2_c hs_o rt_o rc_o ru_o rv_o c0_o c1_o c2_o hs_z hB_z rt_p rc_p c0_p c1_p c2_p rt_q rc_q c0_q c1_q c2_q hB hs rt0 rc0 rt1 rc1 rl2 c00 c01 c02 c10 c11 c12
    obtain⟨hs_c,rt_c,rc_c,ru_c,rv_c,c0_c,c1_c,c2_c,hs_o,rt_o,rc_o,ru_o,rv_o,c0_o,c1_o,c2_o,hs_z,hB_z,rt_p,rc_p,c0_p,c1_p,c2_p,rt_q,rc_q,c0_q,c1_q,c2_q,hB,hs,rt0,rc0,rt1,rc1,rl2,c00,c01,c02,c10,c11,c12⟩:=HX3.out _ hbk7.out
    clear HCT HCC HALL HRB
    go_upto_region 8 with (fail)
    have HSS:Hid (∀ W,Below (w4.heap.size+1) (w4.alloc (.cells #[.slice A4x CT.es.length n4x,.slice B4x CT.ks.length m4x,.slice D4x CC.length k4x] 29)) W->((W).cell? ⟨w4.heap.size,0,none⟩=some (.slice A4x CT.es.length n4x)/\(W).cell? ⟨w4.heap.size,1,none⟩=some (.slice B4x CT.ks.length m4x)/\(W).cell? ⟨w4.heap.size,2,none⟩=some (.slice D4x CC.length k4x)/\(W).cell? ⟨w3.heap.size,0,none⟩=some (.slice A3x OT.es.length n3x)/\(W).cell? ⟨w3.heap.size,1,none⟩=some (.slice B3x OT.ks.length m3x)/\(W).cell? ⟨w3.heap.size,2,none⟩=some (.slice D3x OC.length k3x)/\(W).cell? ⟨w.heap.size,0,none⟩=some (.slice A0 a.es.length n0)/\(W).cell? ⟨w.heap.size,1,none⟩=some (.slice B0 a.ks.length m0)/\(W).cell? ⟨w.heap.size,2,none⟩=some (.slice D0 ac.length k0)/\(W).cell? ⟨(w.heap.size+1),0,none⟩=some (.slice A1 b.es.length n1)/\(W).cell? ⟨(w.heap.size+1),1,none⟩=some (.slice B1 b.ks.length m1)/\(W).cell? ⟨(w.heap.size+1),2,none⟩=some (.slice D1 bc.length k1))):=fun W hW=>by
     obtain⟨_,_,_,_,_,z_c0_c,z_c1_c,z_c2_c,_,_,_,_,_,z_c0_o,z_c1_o,z_c2_o,_,_,_,_,_,_,_,_,_,_,_,_,_,_,_,_,_,_,_,z_c00,z_c01,z_c02,z_c10,z_c11,z_c12⟩:=HX3.out W hW
     exact⟨z_c0_c,z_c1_c,z_c2_c,z_c0_o,z_c1_o,z_c2_o,z_c00,z_c01,z_c02,z_c10,z_c11,z_c12⟩
    have HPR:Hid (∀ W,Below (w4.heap.size+1) (w4.alloc (.cells #[.slice A4x CT.es.length n4x,.slice B4x CT.ks.length m4x,.slice D4x CC.length k4x] 29)) W->(a.rd W (W).heap.size (.slice A0 a.es.length n0) (.slice B0 a.ks.length m0)/\SlP W (W).heap.size 3 SpE (.slice D0 ac.length k0) ac/\b.rd W (W).heap.size (.slice A1 b.es.length n1) (.slice B1 b.ks.length m1)/\SlP W (W).heap.size 3 SpE (.slice D1 bc.length k1) bc)):=fun W hW=>by
     obtain⟨_,_,_,_,_,_,_,_,_,_,_,_,_,_,_,_,_,_,_,_,_,_,_,_,_,_,_,_,_,_,z_rt0,z_rc0,z_rt1,z_rc1,_,_,_,_,_,_,_⟩:=HX3.out W hW
     exact⟨z_rt0,z_rc0,z_rt1,z_rc1⟩
    have HOW:Hid (∀ W,Below (w4.heap.size+1) (w4.alloc (.cells #[.slice A4x CT.es.length n4x,.slice B4x CT.ks.length m4x,.slice D4x CC.length k4x] 29)) W->(OT.rdu W (fun b=>wz.heap.size<=b/\b<(W).heap.size) (.slice A3x OT.es.length n3x) (.slice B3x OT.ks.length m3x)/\SlU W (fun b=>wz.heap.size<=b/\b<(W).heap.size) 3 SpE (.slice D3x OC.length k3x) OC/\CT.rdu W (fun b=>wz.heap.size<=b/\b<(W).heap.size) (.slice A4x CT.es.length n4x) (.slice B4x CT.ks.length m4x)/\SlU W (fun b=>wz.heap.size<=b/\b<(W).heap.size) 3 SpE (.slice D4x CC.length k4x) CC/\wz.heap.size<=(W).heap.size/\Below wz.heap.size wz W)):=fun W hW=>by
     obtain⟨_,_,_,z_ru_c,z_rv_c,_,_,_,_,_,_,z_ru_o,z_rv_o,_,_,_,z_hs_z,z_hB_z,_,_,_,_,_,_,_,_,_,_,_,_,_,_,_,_,_,_,_,_,_,_,_⟩:=HX3.out W hW
     exact⟨z_ru_o,z_rv_o,z_ru_c,z_rv_c,z_hs_z,z_hB_z⟩
    have HS8:Hid (∀ W,Below (w4.heap.size+1) (w4.alloc (.cells #[.slice A4x CT.es.length n4x,.slice B4x CT.ks.length m4x,.slice D4x CC.length k4x] 29)) W->(w4.heap.size+1)<=W.heap.size):=fun W hW=>by
     have:=hW.size
     first|omega|(simp at this;omega)
    have HB8:=hid (hbk7.out.drew)
    have hm8:=HS8.out _ HB8.out
    clear hs_c rt_c rc_c ru_c rv_c c0_c c1_c c2_c hs_o rt_o rc_o ru_o rv_o c0_o c1_o c2_o hs_z hB_z rt_p rc_p c0_p c1_p c2_p rt_q rc_q c0_q c1_q c2_q hB hs rt0 rc0 rt1 rc1 rl2 c00 c01 c02 c10 c11 c12
    refine QD (S:=fun W=>((W).cell? ⟨w4.heap.size,0,none⟩=some (.slice A4x CT.es.length n4x)/\(W).cell? ⟨w4.heap.size,1,none⟩=some (.slice B4x CT.ks.length m4x)/\(W).cell? ⟨w4.heap.size,2,none⟩=some (.slice D4x CC.length k4x)/\(W).cell? ⟨w3.heap.size,0,none⟩=some (.slice A3x OT.es.length n3x)/\(W).cell? ⟨w3.heap.size,1,none⟩=some (.slice B3x OT.ks.length m3x)/\(W).cell? ⟨w3.heap.size,2,none⟩=some (.slice D3x OC.length k3x)/\(W).cell? ⟨w.heap.size,0,none⟩=some (.slice A0 a.es.length n0)/\(W).cell? ⟨w.heap.size,1,none⟩=some (.slice B0 a.ks.length m0)/\(W).cell? ⟨w.heap.size,2,none⟩=some (.slice D0 ac.length k0)/\(W).cell? ⟨(w.heap.size+1),0,none⟩=some (.slice A1 b.es.length n1)/\(W).cell? ⟨(w.heap.size+1),1,none⟩=some (.slice B1 b.ks.length m1)/\(W).cell? ⟨(w.heap.size+1),2,none⟩=some (.slice D1 bc.length k1))) 6 (by kernel_rfl) (by kernel_rfl) ?_
    simp only[List.take_succ_cons,List.take_zero,List.drop_succ_cons,List.drop_zero]
    have hHeld:=HSS.out _ HB8.out
    refine wpAnyH_take (i:=0) (oi:=_) (v:=?vp1060) rfl (by kernel_rfl) (by kernel_rfl) (by kernel_rfl) (fun _ _ _ h=>h) (Or.inl ⟨by rfl,?hp1060⟩) (by assumption) ?_
    case hp1060=>(intro w hSw;(try dsimp only at hSw);go_simp;(try with_reducible rfl))
    simp only[Act.put,List.setIfInBounds_toArray,List.set_cons_zero,List.set_cons_succ,List.getElem_toArray,List.getElem_cons_zero,List.getElem_cons_succ]
    refine wpAnyH_take (i:=1) (oi:=_) (v:=?vq1063) rfl (by kernel_rfl) (by kernel_rfl) (by kernel_rfl) (fun _ _ _ h=>h) (Or.inl ⟨by rfl,?hq1063⟩) (by assumption) ?_
    case hq1063=>(intro w hSw;(try dsimp only at hSw);go_simp;(try with_reducible rfl))
    simp only[Act.put,List.setIfInBounds_toArray,List.set_cons_zero,List.set_cons_succ,List.getElem_toArray,List.getElem_cons_zero,List.getElem_cons_succ]
    refine wpAnyH_take (i:=3) (oi:=_) (v:=?vr1066) rfl (by kernel_rfl) (by kernel_rfl) (by kernel_rfl) (fun _ _ _ h=>h) (Or.inl ⟨by rfl,?hr1066⟩) (by assumption) ?_
    case hr1066=>(intro w hSw;(try dsimp only at hSw);go_simp;(try with_reducible rfl))
    simp only[Act.put,List.setIfInBounds_toArray,List.set_cons_zero,List.set_cons_succ,List.getElem_toArray,List.getElem_cons_zero,List.getElem_cons_succ]
    refine wpAnyH_take (i:=4) (oi:=_) (v:=?vs1069) rfl (by kernel_rfl) (by kernel_rfl) (by kernel_rfl) (fun _ _ _ h=>h) (Or.inl ⟨by rfl,?hs1069⟩) (by assumption) ?_
    case hs1069=>(intro w hSw;(try dsimp only at hSw);go_simp;(try with_reducible rfl))
    simp only[Act.put,List.setIfInBounds_toArray,List.set_cons_zero,List.set_cons_succ,List.getElem_toArray,List.getElem_cons_zero,List.getElem_cons_succ]
    refine wpAnyH_ready (rs:=[2]) (by kernel_rfl) (by simp) ?_
    refine AllReadyH.cons (o:=_) rfl (fun K hK=>?_) AllReadyH.nil
    go_simp
    refine (Yg ac bc a b _ _ _ _ _ _ _ (HPR.out _ HB8.out).1 (HPR.out _ HB8.out).2.2.1 (HPR.out _ HB8.out).2.1 (HPR.out _ HB8.out).2.2.2 (by omega) (by omega) (by omega) (by omega)).mono ?_
    rw[HJ1.out,HJ2.out]
    rintro e wj ⟨vej,vkj,vcj,rfl,hrdj,hslj,hbj⟩
    obtain⟨Aj,nj,Bj,mj,e1,e2⟩:=Ql hrdj
    subst e1
    subst e2
    obtain⟨Dj,kj,e3,_⟩:=id hslj
    subst e3
    have HBJ:Hid (Below (w4.heap.size+1) (w4.alloc (.cells #[.slice A4x CT.es.length n4x,.slice B4x CT.ks.length m4x,.slice D4x CC.length k4x] 29)) wj):=hid (HB8.out.trans (hbj.mono hm8))
    have hzj:=(HOW.out _ HB8.out).2.2.2.2.1
    have HRUJ:=hid (Qu (ok':=fun b=>wz.heap.size<=b/\b<wj.heap.size) (fun _ _=>rfl) (fun b hb=>⟨Nat.le_trans hzj hb.1,hb.2⟩) _ _ _ hrdj)
    have HSUJ:=hid (hslj.up (ok':=fun b=>wz.heap.size<=b/\b<wj.heap.size) (fun _ _=>rfl) (fun b hb=>⟨Nat.le_trans hzj hb.1,hb.2⟩) fun _ _ _ h=>h)
    clear hrdj hslj hbj hzj
    refine hK.out _ _ ?_ (fun hHeld2=>?_)
    ·exact HSS.out _ HBJ.out
    clear hK K
    try simp only[Act.put,List.setIfInBounds_toArray,List.set_cons_zero,List.set_cons_succ,List.getElem_toArray,List.getElem_cons_zero,List.getElem_cons_succ]
    refine wpAnyH_ready (rs:=[5]) (by kernel_rfl) (by simp) ?_
    refine AllReadyH.cons (o:=_) rfl (fun K hK=>?_) AllReadyH.nil
    obtain⟨we,hwe⟩:∃ z,z=wj.alloc (.cells #[.slice Aj JT.es.length nj,.slice Bj JT.ks.length mj,.slice Dj JC.length kj,.slice A3x OT.es.length n3x,.slice B3x OT.ks.length m3x,.slice D3x OC.length k3x,.slice A4x CT.es.length n4x,.slice B4x CT.ks.length m4x,.slice D4x CC.length k4x] 29):=⟨_,rfl⟩
    have hGL:we.heap[wj.heap.size]?=some (.cells #[.slice Aj JT.es.length nj,.slice Bj JT.ks.length mj,.slice Dj JC.length kj,.slice A3x OT.es.length n3x,.slice B3x OT.ks.length m3x,.slice D3x OC.length k3x,.slice A4x CT.es.length n4x,.slice B4x CT.ks.length m4x,.slice D4x CC.length k4x] 29 (0,0)):=by rw[hwe];exact Qf rfl
    have hBL:Below wj.heap.size wj we:=by rw[hwe];exact (Below.refl _ wj).alloc (Nat.le_refl _) _
    have hSL:we.heap.size=wj.heap.size+1:=by rw[hwe];simp
    go_simp
    rw[←hwe]
    clear hwe
    obtain⟨ruo,rvo,ruc,rvc,hzj,_⟩:=HOW.out _ HBJ.out
    have hKL:∀ k:Nat,k<3->∃ x:Kn,KnS we (fun b=>wz.heap.size<=b/\b<we.heap.size) wj.heap.size (k*3) x:=fun k hk=>by
     match k,hk with
     |0,_=>exact⟨(JT,JC),KnS.of (Qa (i:=0) hGL) (Qa (i:=1) hGL) (Qa (i:=2) hGL) (Qu (ok':=fun b=>wz.heap.size<=b/\b<we.heap.size) (fun b hb=>hBL.block b hb.2) (fun b hb=>⟨hb.1,Nat.lt_of_lt_of_le hb.2 hBL.size⟩) _ _ _ HRUJ.out) (SlU.up (ok':=fun b=>wz.heap.size<=b/\b<we.heap.size) HSUJ.out (fun b hb=>hBL.block b hb.2) (fun b hb=>⟨hb.1,Nat.lt_of_lt_of_le hb.2 hBL.size⟩) fun _ _ _ h=>h)⟩
     |1,_=>exact⟨(OT,OC),KnS.of (Qa (i:=3) hGL) (Qa (i:=4) hGL) (Qa (i:=5) hGL) (Qu (ok':=fun b=>wz.heap.size<=b/\b<we.heap.size) (fun b hb=>hBL.block b hb.2) (fun b hb=>⟨hb.1,Nat.lt_of_lt_of_le hb.2 hBL.size⟩) _ _ _ ruo) (SlU.up (ok':=fun b=>wz.heap.size<=b/\b<we.heap.size) rvo (fun b hb=>hBL.block b hb.2) (fun b hb=>⟨hb.1,Nat.lt_of_lt_of_le hb.2 hBL.size⟩) fun _ _ _ h=>h)⟩
     |2,_=>exact⟨(CT,CC),KnS.of (Qa (i:=6) hGL) (Qa (i:=7) hGL) (Qa (i:=8) hGL) (Qu (ok':=fun b=>wz.heap.size<=b/\b<we.heap.size) (fun b hb=>hBL.block b hb.2) (fun b hb=>⟨hb.1,Nat.lt_of_lt_of_le hb.2 hBL.size⟩) _ _ _ ruc) (SlU.up (ok':=fun b=>wz.heap.size<=b/\b<we.heap.size) rvc (fun b hb=>hBL.block b hb.2) (fun b hb=>⟨hb.1,Nat.lt_of_lt_of_le hb.2 hBL.size⟩) fun _ _ _ h=>h)⟩
    have HKL:=hid hKL
    have HBE:Hid (Below (w4.heap.size+1) (w4.alloc (.cells #[.slice A4x CT.es.length n4x,.slice B4x CT.ks.length m4x,.slice D4x CC.length k4x] 29)) we):=hid (HBJ.out.trans (hBL.mono (HS8.out _ HBJ.out)))
    have hle:wj.heap.size<we.heap.size:=by omega
    have hze:wz.heap.size<=we.heap.size:=by omega
    have HBZE:=hid (HOW.out _ HBE.out).2.2.2.2.2
    clear ruo rvo ruc rvc hKL hGL hBL hSL
    refine hK.out _ _ ?_ (fun hHeld5=>?_)
    ·exact HSS.out _ HBE.out
    clear hK K
    try simp only[Act.put,List.setIfInBounds_toArray,List.set_cons_zero,List.set_cons_succ,List.getElem_toArray,List.getElem_cons_zero,List.getElem_cons_succ]
    refine wpAnyH_done (by kernel_rfl) ?_ _
    change wpList _ _ _ _ _ _
    go_wp2_with fail
    go_loopw [71] (fun i wr=>∃ k:Nat,k<=3/\i=.int .i64 k/\Scr wz.heap.size we wr) (fun i _=>3-(intOf i).toNat)
    case atStart=>exact⟨0,by omega,rfl,Scr.refl _ _⟩
    case round=>
     obtain⟨k,hk,rfl,hS⟩:=hrel
     have HSC:=hid hS
     have hsz:=hS.below.size
     clear hS
     by_cases hlt:k<3
     ·have hk3:(k:Int)<3:=by omega
      obtain⟨x,hx⟩:=HKL.out k hlt
      have hx1:=hx.scr HSC.out (fun b hb=>hb.2) hle
      obtain⟨A,n,B,m,C,kk,e1,e2,e3,hsh,hcx⟩:=hx1
      have HX9:=hid hx
      have HCALL:=hid (Yh x.1 wr _ _ wz.heap.size (fun b=>wz.heap.size<=b/\b<we.heap.size) (by omega) (fun b hb=>⟨hb.1,by have:=hb.2;omega⟩) hsh)
      clear hx hsh hcx e3
      go_wp2_with fail
      refine HCALL.out.mono ?_
      rintro e wb ⟨rfl,hSb⟩
      have HSB:=hid (HSC.out.trans hSb)
      have hszb:=hSb.below.size
      obtain⟨A2,n2,B2,m2,C2,kk2,f1,f2,f3,_,hcx2⟩:=HX9.out.scr HSB.out (fun b hb=>hb.2) hle
      clear hSb f1 f2 e1 e2 hcx2
      go_wp2_with fail
      go_loopw [86] (fun i wr=>∃ j:Nat,j<=x.2.length/\i=.int .i64 j/\Scr wz.heap.size we wr) (fun i _=>x.2.length-(intOf i).toNat)
      case atStart=>exact⟨0,Nat.zero_le _,rfl,HSB.out⟩
      case round=>
       obtain⟨j,hj,rfl,hS⟩:=hrel
       have HSI:=hid hS
       have hszi:=hS.below.size
       obtain⟨A3,n3,B3,m3,C3,kk3,f1,f2,f3,_,hcx3⟩:=HX9.out.scr HSI.out (fun b hb=>hb.2) hle
       obtain⟨Cx,cx,hv,_,hbg,hp⟩:=hcx3
       simp only[Value.slice.injEq]at hv
       obtain⟨rfl,_,rfl⟩:=hv
       unfold Big at hbg
       clear hS f1 f2
       by_cases hltj:j<x.2.length
       ·have hji:(j:Int)<(x.2.length:Int):=by omega
        obtain⟨b,off,rfl,hob,hub,hpl⟩:=hp (by omega)
        obtain⟨u0,p0,_⟩:=hpl (j*3) (by omega)
        obtain⟨u1,p1,_⟩:=hpl (j*3+1) (by omega)
        obtain⟨u2,p2,_⟩:=hpl (j*3+2) (by omega)
        rw[←Nat.add_assoc]at p1 p2
        have q0:=hub (off+j*3)
        have q1:=hub (off+j*3+1)
        have q2:=hub (off+j*3+2)
        have HPL:=hid hpl
        have hob1:=hob.1
        have hob2:=hob.2
        clear hub hpl hp hob
        go_wp2_with fail
        go_roundw
        case rel=>
         refine⟨j+1,by omega,by go_num,?_⟩
         have hsp:=Scr.span (i:=j*3) HSI.out HPL.out hob1 (by omega) (by omega) 9 0 0
         with_reducible exact hsp
        case measure=>simp[intOf];omega
       ·have hji:¬(j:Int)<(x.2.length:Int):=by omega
        clear hp
        go_wp2_with fail
        go_roundw
        case rel=>exact⟨k+1,by omega,by go_num,HSI.out⟩
        case measure=>simp[intOf];omega
     ·have hk3:¬(k:Int)<3:=by omega
      have HBR:Hid (Below wz.heap.size wz wr):=hid (HBZE.out.trans HSC.out.below)
      have hszz:=HBR.out.size
      obtain⟨hs_z,hB_z,rt_p,rc_p,c0_p,c1_p,c2_p,rt_q,rc_q,c0_q,c1_q,c2_q,hB,hs,rt0,rc0,rt1,rc1,rl2,c00,c01,c02,c10,c11,c12⟩:=HX1.out _ HBR.out
      go_wp2_with fail
      refine (QF a a ac ac _ _ _ _ _ _ _ rt0 rt_p rc0 rc_p).mono ?_
      rw[show (trEq a a&&decide (ac=ac))=true from (by simp[trEq])]
      rintro e w8 ⟨rfl,hb⟩
      have hbk8:Hid (Below wz.heap.size wz w8):=hid (HBR.out.trans (hb.mono (by first|omega|(simp;done)|(simp;omega))))
      clear hb
      clear hs_z hB_z rt_p rc_p c0_p c1_p c2_p rt_q rc_q c0_q c1_q c2_q hB hs rt0 rc0 rt1 rc1 rl2 c00 c01 c02 c10 c11 c12
      obtain⟨hs_z,hB_z,rt_p,rc_p,c0_p,c1_p,c2_p,rt_q,rc_q,c0_q,c1_q,c2_q,hB,hs,rt0,rc0,rt1,rc1,rl2,c00,c01,c02,c10,c11,c12⟩:=HX1.out _ hbk8.out
      go_wp2_with fail
      refine (QF b b bc bc _ _ _ _ _ _ _ rt1 rt_q rc1 rc_q).mono ?_
      rw[show (trEq b b&&decide (bc=bc))=true from (by simp[trEq])]
      rintro e w9 ⟨rfl,hb⟩
      have hbk9:Hid (Below wz.heap.size wz w9):=hid (hbk8.out.trans (hb.mono (by first|omega|(simp;done)|(simp;omega))))
      clear hb
      clear hs_z hB_z rt_p rc_p c0_p c1_p c2_p rt_q rc_q c0_q c1_q c2_q hB hs rt0 rc0 rt1 rc1 rl2 c00 c01 c02 c10 c11 c12
      obtain⟨hs_z,hB_z,rt_p,rc_p,c0_p,c1_p,c2_p,rt_q,rc_q,c0_q,c1_q,c2_q,hB,hs,rt0,rc0,rt1,rc1,rl2,c00,c01,c02,c10,c11,c12⟩:=HX1.out _ hbk9.out
      go_wp2_with fail
      go_ret
      exact⟨rfl,hB⟩
   ·have HRB:=hid hrb
    have hct:CT=b:=by rw[←HC1x.out];unfold cloT;rw[hrb];rfl
    have hcc:CC=bc:=by rw[←HC2x.out];unfold cloC;rw[hrb];rfl
    have HCT:=hid hct
    have HCC:=hid hcc
    have HALL:Hid (([(b,bc)]:List Kn).all (fun x=>caR x.1 x.2)=true):=by unfold Hid;simp[hrb]
    clear hct hcc hrb
    go_wp2_with fail
    have hsl_le:(w4.heap.size+1)<=((w4.alloc (.cells #[.slice A4x CT.es.length n4x,.slice B4x CT.ks.length m4x,.slice D4x CC.length k4x] 29))).heap.size:=(by first|omega|(simp;done)|(simp;omega))
    clear hs_c rt_c rc_c ru_c rv_c c0_c c1_c c2_c hs_o rt_o rc_o ru_o rv_o c0_o c1_o c2_o hs_z hB_z rt_p rc_p c0_p c1_p c2_p rt_q rc_q c0_q c1_q c2_q hB hs rt0 rc0 rt1 rc1 rl2 c00 c01 c02 c10 c11 c12
    obtain⟨hs_c,rt_c,rc_c,ru_c,rv_c,c0_c,c1_c,c2_c,hs_o,rt_o,rc_o,ru_o,rv_o,c0_o,c1_o,c2_o,hs_z,hB_z,rt_p,rc_p,c0_p,c1_p,c2_p,rt_q,rc_q,c0_q,c1_q,c2_q,hB,hs,rt0,rc0,rt1,rc1,rl2,c00,c01,c02,c10,c11,c12⟩:=HX3.out _ ((Below.refl _ _).alloc hsl_le (.cells #[.slice A1 b.es.length n1,.slice B1 b.ks.length m1,.slice D1 bc.length k1] 29))
    refine (Zh [(b,bc)] _ _ (SlP.oneB (kn_at rt1 rc1) rfl _ (by first|rfl|(simp;done)) (by simp)) (fun x hx=>by simp at hx;subst hx;exact⟨by simp only;omega,by simp only;omega⟩)).mono ?_
    rw[HALL.out]
    rintro e w5 ⟨rfl,hb⟩
    have hbk5:Hid (Below (w4.heap.size+1) (w4.alloc (.cells #[.slice A4x CT.es.length n4x,.slice B4x CT.ks.length m4x,.slice D4x CC.length k4x] 29)) w5):=hid (((Below.refl _ _).alloc hsl_le (.cells #[.slice A1 b.es.length n1,.slice B1 b.ks.length m1,.slice D1 bc.length k1] 29)).trans (hb.mono (by first|omega|(simp;done)|(simp;omega))))
    clear hb
    clear hs_c rt_c rc_c ru_c rv_c c0_c c1_c c2_c hs_o rt_o rc_o ru_o rv_o c0_o c1_o c2_o hs_z hB_z rt_p rc_p c0_p c1_p c2_p rt_q rc_q c0_q c1_q c2_q hB hs rt0 rc0 rt1 rc1 rl2 c00 c01 c02 c10 c11 c12
    obtain⟨hs_c,rt_c,rc_c,ru_c,rv_c,c0_c,c1_c,c2_c,hs_o,rt_o,rc_o,ru_o,rv_o,c0_o,c1_o,c2_o,hs_z,hB_z,rt_p,rc_p,c0_p,c1_p,c2_p,rt_q,rc_q,c0_q,c1_q,c2_q,hB,hs,rt0,rc0,rt1,rc1,rl2,c00,c01,c02,c10,c11,c12⟩:=HX3.out _ hbk5.out
    go_wp2_with fail
    refine (QF CT b CC bc _ _ _ _ _ _ _ rt_c rt1 rc_c rc1).mono ?_
    rw[show (trEq CT b&&decide (CC=bc))=true from (by rw[HCT.out,HCC.out];simp[trEq])]
    rintro e w6 ⟨rfl,hb⟩
    have hbk6:Hid (Below (w4.heap.size+1) (w4.alloc (.cells #[.slice A4x CT.es.length n4x,.slice B4x CT.ks.length m4x,.slice D4x CC.length k4x] 29)) w6):=hid (hbk5.out.trans (hb.mono (by first|omega|(simp;done)|(simp;omega))))
    clear hb
    clear hs_c rt_c rc_c ru_c rv_c c0_c c1_c c2_c hs_o rt_o rc_o ru_o rv_o c0_o c1_o c2_o hs_z hB_z rt_p rc_p c0_p c1_p c2_p rt_q rc_q c0_q c1_q c2_q hB hs rt0 rc0 rt1 rc1 rl2 c00 c01 c02 c10 c11 c12
    obtain⟨hs_c,rt_c,rc_c,ru_c,rv_c,c0_c,c1_c,c2_c,hs_o,rt_o,rc_o,ru_o,rv_o,c0_o,c1_o,c2_o,hs_z,hB_z,rt_p,rc_p,c0_p,c1_p,c2_p,rt_q,rc_q,c0_q,c1_q,c2_q,hB,hs,rt0,rc0,rt1,rc1,rl2,c00,c01,c02,c10,c11,c12⟩:=HX3.out _ hbk6.out
    go_wp2_with fail
    have hsl_le:(w4.heap.size+1)<=(w6).heap.size:=(by first|omega|(simp;done)|(simp;omega))
    clear hs_c rt_c rc_c ru_c rv_c c0_c c1_c c2_c hs_o rt_o rc_o ru_o rv_o c0_o c1_o c2_o hs_z hB_z rt_p rc_p c0_p c1_p c2_p rt_q rc_q c0_q c1_q c2_q hB hs rt0 rc0 rt1 rc1 rl2 c00 c01 c02 c10 c11 c12
    obtain⟨hs_c,rt_c,rc_c,ru_c,rv_c,c0_c,c1_c,c2_c,hs_o,rt_o,rc_o,ru_o,rv_o,c0_o,c1_o,c2_o,hs_z,hB_z,rt_p,rc_p,c0_p,c1_p,c2_p,rt_q,rc_q,c0_q,c1_q,c2_q,hB,hs,rt0,rc0,rt1,rc1,rl2,c00,c01,c02,c10,c11,c12⟩:=HX3.out _ (hbk6.out.alloc hsl_le (.cells #[.slice A1 b.es.length n1,.slice B1 b.ks.length m1,.slice D1 bc.length k1] 29))
    refine (Zh [(b,bc)] _ _ (SlP.oneB (kn_at rt1 rc1) rfl _ (by first|rfl|(simp;done)) (by simp)) (fun x hx=>by simp at hx;subst hx;exact⟨by simp only;omega,by simp only;omega⟩)).mono ?_
    rw[HALL.out]
    rintro e w7 ⟨rfl,hb⟩
    have hbk7:Hid (Below (w4.heap.size+1) (w4.alloc (.cells #[.slice A4x CT.es.length n4x,.slice B4x CT.ks.length m4x,.slice D4x CC.length k4x] 29)) w7):=hid ((hbk6.out.alloc hsl_le (.cells #[.slice A1 b.es.length n1,.slice B1 b.ks.length m1,.slice D1 bc.length k1] 29)).trans (hb.mono (by first|omega|(simp;done)|(simp;omega))))
    clear hb
    clear hs_c rt_c rc_c ru_c rv_c c0_c c1_c c2_c hs_o rt_o rc_o ru_o rv_o c0_o c1_o c2_o hs_z hB_z rt_p rc_p c0_p c1_p c2_p rt_q rc_q c0_q c1_q c2_q hB hs rt0 rc0 rt1 rc1 rl2 c00 c01 c02 c10 c11 c12
    obtain⟨hs_c,rt_c,rc_c,ru_c,rv_c,c0_c,c1_c,c2_c,hs_o,rt_o,rc_o,ru_o,rv_o,c0_o,c1_o,c2_o,hs_z,hB_z,rt_p,rc_p,c0_p,c1_p,c2_p,rt_q,rc_q,c0_q,c1_q,c2_q,hB,hs,rt0,rc0,rt1,rc1,rl2,c00,c01,c02,c10,c11,c12⟩:=HX3.out _ hbk7.out
    clear HCT HCC HALL HRB
    go_upto_region 8 with (fail)
    have HSS:Hid (∀ W,Below (w4.heap.size+1) (w4.alloc (.cells #[.slice A4x CT.es.length n4x,.slice B4x CT.ks.length m4x,.slice D4x CC.length k4x] 29)) W->((W).cell? ⟨w4.heap.size,0,none⟩=some (.slice A4x CT.es.length n4x)/\(W).cell? ⟨w4.heap.size,1,none⟩=some (.slice B4x CT.ks.length m4x)/\(W).cell? ⟨w4.heap.size,2,none⟩=some (.slice D4x CC.length k4x)/\(W).cell? ⟨w3.heap.size,0,none⟩=some (.slice A3x OT.es.length n3x)/\(W).cell? ⟨w3.heap.size,1,none⟩=some (.slice B3x OT.ks.length m3x)/\(W).cell? ⟨w3.heap.size,2,none⟩=some (.slice D3x OC.length k3x)/\(W).cell? ⟨w.heap.size,0,none⟩=some (.slice A0 a.es.length n0)/\(W).cell? ⟨w.heap.size,1,none⟩=some (.slice B0 a.ks.length m0)/\(W).cell? ⟨w.heap.size,2,none⟩=some (.slice D0 ac.length k0)/\(W).cell? ⟨(w.heap.size+1),0,none⟩=some (.slice A1 b.es.length n1)/\(W).cell? ⟨(w.heap.size+1),1,none⟩=some (.slice B1 b.ks.length m1)/\(W).cell? ⟨(w.heap.size+1),2,none⟩=some (.slice D1 bc.length k1))):=fun W hW=>by
     obtain⟨_,_,_,_,_,z_c0_c,z_c1_c,z_c2_c,_,_,_,_,_,z_c0_o,z_c1_o,z_c2_o,_,_,_,_,_,_,_,_,_,_,_,_,_,_,_,_,_,_,_,z_c00,z_c01,z_c02,z_c10,z_c11,z_c12⟩:=HX3.out W hW
     exact⟨z_c0_c,z_c1_c,z_c2_c,z_c0_o,z_c1_o,z_c2_o,z_c00,z_c01,z_c02,z_c10,z_c11,z_c12⟩
    have HPR:Hid (∀ W,Below (w4.heap.size+1) (w4.alloc (.cells #[.slice A4x CT.es.length n4x,.slice B4x CT.ks.length m4x,.slice D4x CC.length k4x] 29)) W->(a.rd W (W).heap.size (.slice A0 a.es.length n0) (.slice B0 a.ks.length m0)/\SlP W (W).heap.size 3 SpE (.slice D0 ac.length k0) ac/\b.rd W (W).heap.size (.slice A1 b.es.length n1) (.slice B1 b.ks.length m1)/\SlP W (W).heap.size 3 SpE (.slice D1 bc.length k1) bc)):=fun W hW=>by
     obtain⟨_,_,_,_,_,_,_,_,_,_,_,_,_,_,_,_,_,_,_,_,_,_,_,_,_,_,_,_,_,_,z_rt0,z_rc0,z_rt1,z_rc1,_,_,_,_,_,_,_⟩:=HX3.out W hW
     exact⟨z_rt0,z_rc0,z_rt1,z_rc1⟩
    have HOW:Hid (∀ W,Below (w4.heap.size+1) (w4.alloc (.cells #[.slice A4x CT.es.length n4x,.slice B4x CT.ks.length m4x,.slice D4x CC.length k4x] 29)) W->(OT.rdu W (fun b=>wz.heap.size<=b/\b<(W).heap.size) (.slice A3x OT.es.length n3x) (.slice B3x OT.ks.length m3x)/\SlU W (fun b=>wz.heap.size<=b/\b<(W).heap.size) 3 SpE (.slice D3x OC.length k3x) OC/\CT.rdu W (fun b=>wz.heap.size<=b/\b<(W).heap.size) (.slice A4x CT.es.length n4x) (.slice B4x CT.ks.length m4x)/\SlU W (fun b=>wz.heap.size<=b/\b<(W).heap.size) 3 SpE (.slice D4x CC.length k4x) CC/\wz.heap.size<=(W).heap.size/\Below wz.heap.size wz W)):=fun W hW=>by
     obtain⟨_,_,_,z_ru_c,z_rv_c,_,_,_,_,_,_,z_ru_o,z_rv_o,_,_,_,z_hs_z,z_hB_z,_,_,_,_,_,_,_,_,_,_,_,_,_,_,_,_,_,_,_,_,_,_,_⟩:=HX3.out W hW
     exact⟨z_ru_o,z_rv_o,z_ru_c,z_rv_c,z_hs_z,z_hB_z⟩
    have HS8:Hid (∀ W,Below (w4.heap.size+1) (w4.alloc (.cells #[.slice A4x CT.es.length n4x,.slice B4x CT.ks.length m4x,.slice D4x CC.length k4x] 29)) W->(w4.heap.size+1)<=W.heap.size):=fun W hW=>by
     have:=hW.size
     first|omega|(simp at this;omega)
    have HB8:=hid (hbk7.out.drew)
    have hm8:=HS8.out _ HB8.out
    clear hs_c rt_c rc_c ru_c rv_c c0_c c1_c c2_c hs_o rt_o rc_o ru_o rv_o c0_o c1_o c2_o hs_z hB_z rt_p rc_p c0_p c1_p c2_p rt_q rc_q c0_q c1_q c2_q hB hs rt0 rc0 rt1 rc1 rl2 c00 c01 c02 c10 c11 c12
    refine QD (S:=fun W=>((W).cell? ⟨w4.heap.size,0,none⟩=some (.slice A4x CT.es.length n4x)/\(W).cell? ⟨w4.heap.size,1,none⟩=some (.slice B4x CT.ks.length m4x)/\(W).cell? ⟨w4.heap.size,2,none⟩=some (.slice D4x CC.length k4x)/\(W).cell? ⟨w3.heap.size,0,none⟩=some (.slice A3x OT.es.length n3x)/\(W).cell? ⟨w3.heap.size,1,none⟩=some (.slice B3x OT.ks.length m3x)/\(W).cell? ⟨w3.heap.size,2,none⟩=some (.slice D3x OC.length k3x)/\(W).cell? ⟨w.heap.size,0,none⟩=some (.slice A0 a.es.length n0)/\(W).cell? ⟨w.heap.size,1,none⟩=some (.slice B0 a.ks.length m0)/\(W).cell? ⟨w.heap.size,2,none⟩=some (.slice D0 ac.length k0)/\(W).cell? ⟨(w.heap.size+1),0,none⟩=some (.slice A1 b.es.length n1)/\(W).cell? ⟨(w.heap.size+1),1,none⟩=some (.slice B1 b.ks.length m1)/\(W).cell? ⟨(w.heap.size+1),2,none⟩=some (.slice D1 bc.length k1))) 6 (by kernel_rfl) (by kernel_rfl) ?_
    simp only[List.take_succ_cons,List.take_zero,List.drop_succ_cons,List.drop_zero]
    have hHeld:=HSS.out _ HB8.out
    refine wpAnyH_take (i:=0) (oi:=_) (v:=?vp1262) rfl (by kernel_rfl) (by kernel_rfl) (by kernel_rfl) (fun _ _ _ h=>h) (Or.inl ⟨by rfl,?hp1262⟩) (by assumption) ?_
    case hp1262=>(intro w hSw;(try dsimp only at hSw);go_simp;(try with_reducible rfl))
    simp only[Act.put,List.setIfInBounds_toArray,List.set_cons_zero,List.set_cons_succ,List.getElem_toArray,List.getElem_cons_zero,List.getElem_cons_succ]
    refine wpAnyH_take (i:=1) (oi:=_) (v:=?vq1265) rfl (by kernel_rfl) (by kernel_rfl) (by kernel_rfl) (fun _ _ _ h=>h) (Or.inl ⟨by rfl,?hq1265⟩) (by assumption) ?_
    case hq1265=>(intro w hSw;(try dsimp only at hSw);go_simp;(try with_reducible rfl))
    simp only[Act.put,List.setIfInBounds_toArray,List.set_cons_zero,List.set_cons_succ,List.getElem_toArray,List.getElem_cons_zero,List.getElem_cons_succ]
    refine wpAnyH_take (i:=3) (oi:=_) (v:=?vr1268) rfl (by kernel_rfl) (by kernel_rfl) (by kernel_rfl) (fun _ _ _ h=>h) (Or.inl ⟨by rfl,?hr1268⟩) (by assumption) ?_
    case hr1268=>(intro w hSw;(try dsimp only at hSw);go_simp;(try with_reducible rfl))
    simp only[Act.put,List.setIfInBounds_toArray,List.set_cons_zero,List.set_cons_succ,List.getElem_toArray,List.getElem_cons_zero,List.getElem_cons_succ]
    refine wpAnyH_take (i:=4) (oi:=_) (v:=?vs1271) rfl (by kernel_rfl) (by kernel_rfl) (by kernel_rfl) (fun _ _ _ h=>h) (Or.inl ⟨by rfl,?hs1271⟩) (by assumption) ?_
    case hs1271=>(intro w hSw;(try dsimp only at hSw);go_simp;(try with_reducible rfl))
    simp only[Act.put,List.setIfInBounds_toArray,List.set_cons_zero,List.set_cons_succ,List.getElem_toArray,List.getElem_cons_zero,List.getElem_cons_succ]
    refine wpAnyH_ready (rs:=[2]) (by kernel_rfl) (by simp) ?_
    refine AllReadyH.cons (o:=_) rfl (fun K hK=>?_) AllReadyH.nil
    go_simp
    refine (Yg ac bc a b _ _ _ _ _ _ _ (HPR.out _ HB8.out).1 (HPR.out _ HB8.out).2.2.1 (HPR.out _ HB8.out).2.1 (HPR.out _ HB8.out).2.2.2 (by omega) (by omega) (by omega) (by omega)).mono ?_
    rw[HJ1.out,HJ2.out]
    rintro e wj ⟨vej,vkj,vcj,rfl,hrdj,hslj,hbj⟩
    obtain⟨Aj,nj,Bj,mj,e1,e2⟩:=Ql hrdj
    subst e1
    subst e2
    obtain⟨Dj,kj,e3,_⟩:=id hslj
    subst e3
    have HBJ:Hid (Below (w4.heap.size+1) (w4.alloc (.cells #[.slice A4x CT.es.length n4x,.slice B4x CT.ks.length m4x,.slice D4x CC.length k4x] 29)) wj):=hid (HB8.out.trans (hbj.mono hm8))
    have hzj:=(HOW.out _ HB8.out).2.2.2.2.1
    have HRUJ:=hid (Qu (ok':=fun b=>wz.heap.size<=b/\b<wj.heap.size) (fun _ _=>rfl) (fun b hb=>⟨Nat.le_trans hzj hb.1,hb.2⟩) _ _ _ hrdj)
    have HSUJ:=hid (hslj.up (ok':=fun b=>wz.heap.size<=b/\b<wj.heap.size) (fun _ _=>rfl) (fun b hb=>⟨Nat.le_trans hzj hb.1,hb.2⟩) fun _ _ _ h=>h)
    clear hrdj hslj hbj hzj
    refine hK.out _ _ ?_ (fun hHeld2=>?_)
    ·exact HSS.out _ HBJ.out
    clear hK K
    try simp only[Act.put,List.setIfInBounds_toArray,List.set_cons_zero,List.set_cons_succ,List.getElem_toArray,List.getElem_cons_zero,List.getElem_cons_succ]
    refine wpAnyH_ready (rs:=[5]) (by kernel_rfl) (by simp) ?_
    refine AllReadyH.cons (o:=_) rfl (fun K hK=>?_) AllReadyH.nil
    obtain⟨we,hwe⟩:∃ z,z=wj.alloc (.cells #[.slice Aj JT.es.length nj,.slice Bj JT.ks.length mj,.slice Dj JC.length kj,.slice A3x OT.es.length n3x,.slice B3x OT.ks.length m3x,.slice D3x OC.length k3x,.slice A4x CT.es.length n4x,.slice B4x CT.ks.length m4x,.slice D4x CC.length k4x] 29):=⟨_,rfl⟩
    have hGL:we.heap[wj.heap.size]?=some (.cells #[.slice Aj JT.es.length nj,.slice Bj JT.ks.length mj,.slice Dj JC.length kj,.slice A3x OT.es.length n3x,.slice B3x OT.ks.length m3x,.slice D3x OC.length k3x,.slice A4x CT.es.length n4x,.slice B4x CT.ks.length m4x,.slice D4x CC.length k4x] 29 (0,0)):=by rw[hwe];exact Qf rfl
    have hBL:Below wj.heap.size wj we:=by rw[hwe];exact (Below.refl _ wj).alloc (Nat.le_refl _) _
    have hSL:we.heap.size=wj.heap.size+1:=by rw[hwe];simp
    go_simp
    rw[←hwe]
    clear hwe
    obtain⟨ruo,rvo,ruc,rvc,hzj,_⟩:=HOW.out _ HBJ.out
    have hKL:∀ k:Nat,k<3->∃ x:Kn,KnS we (fun b=>wz.heap.size<=b/\b<we.heap.size) wj.heap.size (k*3) x:=fun k hk=>by
     match k,hk with
     |0,_=>exact⟨(JT,JC),KnS.of (Qa (i:=0) hGL) (Qa (i:=1) hGL) (Qa (i:=2) hGL) (Qu (ok':=fun b=>wz.heap.size<=b/\b<we.heap.size) (fun b hb=>hBL.block b hb.2) (fun b hb=>⟨hb.1,Nat.lt_of_lt_of_le hb.2 hBL.size⟩) _ _ _ HRUJ.out) (SlU.up (ok':=fun b=>wz.heap.size<=b/\b<we.heap.size) HSUJ.out (fun b hb=>hBL.block b hb.2) (fun b hb=>⟨hb.1,Nat.lt_of_lt_of_le hb.2 hBL.size⟩) fun _ _ _ h=>h)⟩
     |1,_=>exact⟨(OT,OC),KnS.of (Qa (i:=3) hGL) (Qa (i:=4) hGL) (Qa (i:=5) hGL) (Qu (ok':=fun b=>wz.heap.size<=b/\b<we.heap.size) (fun b hb=>hBL.block b hb.2) (fun b hb=>⟨hb.1,Nat.lt_of_lt_of_le hb.2 hBL.size⟩) _ _ _ ruo) (SlU.up (ok':=fun b=>wz.heap.size<=b/\b<we.heap.size) rvo (fun b hb=>hBL.block b hb.2) (fun b hb=>⟨hb.1,Nat.lt_of_lt_of_le hb.2 hBL.size⟩) fun _ _ _ h=>h)⟩
     |2,_=>exact⟨(CT,CC),KnS.of (Qa (i:=6) hGL) (Qa (i:=7) hGL) (Qa (i:=8) hGL) (Qu (ok':=fun b=>wz.heap.size<=b/\b<we.heap.size) (fun b hb=>hBL.block b hb.2) (fun b hb=>⟨hb.1,Nat.lt_of_lt_of_le hb.2 hBL.size⟩) _ _ _ ruc) (SlU.up (ok':=fun b=>wz.heap.size<=b/\b<we.heap.size) rvc (fun b hb=>hBL.block b hb.2) (fun b hb=>⟨hb.1,Nat.lt_of_lt_of_le hb.2 hBL.size⟩) fun _ _ _ h=>h)⟩
    have HKL:=hid hKL
    have HBE:Hid (Below (w4.heap.size+1) (w4.alloc (.cells #[.slice A4x CT.es.length n4x,.slice B4x CT.ks.length m4x,.slice D4x CC.length k4x] 29)) we):=hid (HBJ.out.trans (hBL.mono (HS8.out _ HBJ.out)))
    have hle:wj.heap.size<we.heap.size:=by omega
    have hze:wz.heap.size<=we.heap.size:=by omega
    have HBZE:=hid (HOW.out _ HBE.out).2.2.2.2.2
    clear ruo rvo ruc rvc hKL hGL hBL hSL
    refine hK.out _ _ ?_ (fun hHeld5=>?_)
    ·exact HSS.out _ HBE.out
    clear hK K
    try simp only[Act.put,List.setIfInBounds_toArray,List.set_cons_zero,List.set_cons_succ,List.getElem_toArray,List.getElem_cons_zero,List.getElem_cons_succ]
    refine wpAnyH_done (by kernel_rfl) ?_ _
    change wpList _ _ _ _ _ _
    go_wp2_with fail
    go_loopw [71] (fun i wr=>∃ k:Nat,k<=3/\i=.int .i64 k/\Scr wz.heap.size we wr) (fun i _=>3-(intOf i).toNat)
    case atStart=>exact⟨0,by omega,rfl,Scr.refl _ _⟩
    case round=>
     obtain⟨k,hk,rfl,hS⟩:=hrel
     have HSC:=hid hS
     have hsz:=hS.below.size
     clear hS
     by_cases hlt:k<3
     ·have hk3:(k:Int)<3:=by omega
      obtain⟨x,hx⟩:=HKL.out k hlt
      have hx1:=hx.scr HSC.out (fun b hb=>hb.2) hle
      obtain⟨A,n,B,m,C,kk,e1,e2,e3,hsh,hcx⟩:=hx1
      have HX9:=hid hx
      have HCALL:=hid (Yh x.1 wr _ _ wz.heap.size (fun b=>wz.heap.size<=b/\b<we.heap.size) (by omega) (fun b hb=>⟨hb.1,by have:=hb.2;omega⟩) hsh)
      clear hx hsh hcx e3
      go_wp2_with fail
      refine HCALL.out.mono ?_
      rintro e wb ⟨rfl,hSb⟩
      have HSB:=hid (HSC.out.trans hSb)
      have hszb:=hSb.below.size
      obtain⟨A2,n2,B2,m2,C2,kk2,f1,f2,f3,_,hcx2⟩:=HX9.out.scr HSB.out (fun b hb=>hb.2) hle
      clear hSb f1 f2 e1 e2 hcx2
      go_wp2_with fail
      go_loopw [86] (fun i wr=>∃ j:Nat,j<=x.2.length/\i=.int .i64 j/\Scr wz.heap.size we wr) (fun i _=>x.2.length-(intOf i).toNat)
      case atStart=>exact⟨0,Nat.zero_le _,rfl,HSB.out⟩
      case round=>
       obtain⟨j,hj,rfl,hS⟩:=hrel
       have HSI:=hid hS
       have hszi:=hS.below.size
       obtain⟨A3,n3,B3,m3,C3,kk3,f1,f2,f3,_,hcx3⟩:=HX9.out.scr HSI.out (fun b hb=>hb.2) hle
       obtain⟨Cx,cx,hv,_,hbg,hp⟩:=hcx3
       simp only[Value.slice.injEq]at hv
       obtain⟨rfl,_,rfl⟩:=hv
       unfold Big at hbg
       clear hS f1 f2
       by_cases hltj:j<x.2.length
       ·have hji:(j:Int)<(x.2.length:Int):=by omega
        obtain⟨b,off,rfl,hob,hub,hpl⟩:=hp (by omega)
        obtain⟨u0,p0,_⟩:=hpl (j*3) (by omega)
        obtain⟨u1,p1,_⟩:=hpl (j*3+1) (by omega)
        obtain⟨u2,p2,_⟩:=hpl (j*3+2) (by omega)
        rw[←Nat.add_assoc]at p1 p2
        have q0:=hub (off+j*3)
        have q1:=hub (off+j*3+1)
        have q2:=hub (off+j*3+2)
        have HPL:=hid hpl
        have hob1:=hob.1
        have hob2:=hob.2
        clear hub hpl hp hob
        go_wp2_with fail
        go_roundw
        case rel=>
         refine⟨j+1,by omega,by go_num,?_⟩
         have hsp:=Scr.span (i:=j*3) HSI.out HPL.out hob1 (by omega) (by omega) 9 0 0
         with_reducible exact hsp
        case measure=>simp[intOf];omega
       ·have hji:¬(j:Int)<(x.2.length:Int):=by omega
        clear hp
        go_wp2_with fail
        go_roundw
        case rel=>exact⟨k+1,by omega,by go_num,HSI.out⟩
        case measure=>simp[intOf];omega
     ·have hk3:¬(k:Int)<3:=by omega
      have HBR:Hid (Below wz.heap.size wz wr):=hid (HBZE.out.trans HSC.out.below)
      have hszz:=HBR.out.size
      obtain⟨hs_z,hB_z,rt_p,rc_p,c0_p,c1_p,c2_p,rt_q,rc_q,c0_q,c1_q,c2_q,hB,hs,rt0,rc0,rt1,rc1,rl2,c00,c01,c02,c10,c11,c12⟩:=HX1.out _ HBR.out
      go_wp2_with fail
      refine (QF a a ac ac _ _ _ _ _ _ _ rt0 rt_p rc0 rc_p).mono ?_
      rw[show (trEq a a&&decide (ac=ac))=true from (by simp[trEq])]
      rintro e w8 ⟨rfl,hb⟩
      have hbk8:Hid (Below wz.heap.size wz w8):=hid (HBR.out.trans (hb.mono (by first|omega|(simp;done)|(simp;omega))))
      clear hb
      clear hs_z hB_z rt_p rc_p c0_p c1_p c2_p rt_q rc_q c0_q c1_q c2_q hB hs rt0 rc0 rt1 rc1 rl2 c00 c01 c02 c10 c11 c12
      obtain⟨hs_z,hB_z,rt_p,rc_p,c0_p,c1_p,c2_p,rt_q,rc_q,c0_q,c1_q,c2_q,hB,hs,rt0,rc0,rt1,rc1,rl2,c00,c01,c02,c10,c11,c12⟩:=HX1.out _ hbk8.out
      go_wp2_with fail
      refine (QF b b bc bc _ _ _ _ _ _ _ rt1 rt_q rc1 rc_q).mono ?_
      rw[show (trEq b b&&decide (bc=bc))=true from (by simp[trEq])]
      rintro e w9 ⟨rfl,hb⟩
      have hbk9:Hid (Below wz.heap.size wz w9):=hid (hbk8.out.trans (hb.mono (by first|omega|(simp;done)|(simp;omega))))
      clear hb
      clear hs_z hB_z rt_p rc_p c0_p c1_p c2_p rt_q rc_q c0_q c1_q c2_q hB hs rt0 rc0 rt1 rc1 rl2 c00 c01 c02 c10 c11 c12
      obtain⟨hs_z,hB_z,rt_p,rc_p,c0_p,c1_p,c2_p,rt_q,rc_q,c0_q,c1_q,c2_q,hB,hs,rt0,rc0,rt1,rc1,rl2,c00,c01,c02,c10,c11,c12⟩:=HX1.out _ hbk9.out
      go_wp2_with fail
      go_ret
      exact⟨rfl,hB⟩
end Go.Proofs.YtbcoelggdikipaaGreat
