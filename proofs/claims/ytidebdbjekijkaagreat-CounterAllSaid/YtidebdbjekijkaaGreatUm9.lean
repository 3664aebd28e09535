/- What the laws need. No condition but those that each lemma states. -/
import Derived.OpenShut
import Derived.Test.YtidebdbjekijkaaGreatUm7
import Derived.Test.YtidebdbjekijkaaGreatUm6
import Derived.Test.YtidebdbjekijkaaGreatUm4
import Derived.Test.YtidebdbjekijkaaGreatUm2
set_option maxRecDepth 100000
set_option maxHeartbeats 8000000
set_option linter.unusedSimpArgs false
namespace Go.Proofs.YtidebdbjekijkaaGreat
open Go.ChangeShapes Go.WideShapes Go.ChangeAt Go.RowKit
theorem Wt.arr {H:Type}{P:Program}{t e:TypeId}{n:Nat}{parts:List (DataW H)}(hu:P.underlying t=some (.array n e))(h:Wt P t (.agg parts)):∀ d∈parts,Wt P e d:=fun d hd m hm=>by
 refine h m ?_
 unfold DataW.weights
 rw[hu]
 exact Wt.all hd m hm
section
variable {H:Type}{enc:TypeId×Value->H}{W:World}
theorem qXz:Tryz.prog.readableRec 47=true/\47<Tryz.prog.types.size:=⟨by kernel_rfl,of_decide_eq_true (by kernel_rfl)⟩
theorem VL:Tryz.prog.bytesOf 21=4:=by kernel_rfl
theorem VM:Tryz.prog.cellsOf 21=1:=by kernel_rfl
def I3E (n:Int)(cs:List Value):Prop:=cs=[.int .i32 n]/\-2147483648<=n/\n<=2147483647
theorem qX0 {base:Nat}{v:Value}{d:DataW H}{p:List MemPlace}(hv:Value.okWide Tryz.prog W .any base 47 v)(h:DataW.Trod enc Tryz.prog W 0 (fun _=>true) true 47 v d p)(hw:Wt Tryz.prog 47 d) :
  ∃ l:List Int,SlP W W.heap.size 1 I3E v l:=by
 obtain⟨a,len,cap,rfl⟩:=okWide_slice Tryz.underlying47 hv
 obtain⟨fuel,hf⟩:=h
 obtain⟨v',l,e,hl⟩:=X3 (E:=I3E) Tryz.underlying47 VM (by decide) VL (by decide) hf hw fun _ _ _ _ hy hwy=>by
  obtain⟨a,e0,_,w0⟩:=DataW.trod_int Tryz.underlying21 hy
  exact⟨a,e0,bounds_i32 w0⟩
 simp[Value.cells]at e
 subst e
 exact⟨l,hl⟩
end
end Go.Proofs.YtidebdbjekijkaaGreat
namespace Go.Proofs.YtidebdbjekijkaaGreat
open Go.RowKit
theorem qZt (t:Tr)(l:List Int)(w:World)(ve0 vk0 vl1:Value)(h0:t.rd w w.heap.size ve0 vk0)(h1:SlP w w.heap.size 1 I3E vl1 l) :
  Calls Tryz.prog 5 #[.agg #[ve0,vk0],vl1] w fun e w'=>e=.returned (.bool true)/\Below w.heap.size w w':=by
 have h1x:=hid h1
 have HC0:Hid (∀ w',Below w.heap.size w w'->t.rd w' w'.heap.size ve0 vk0):=fun w' hb=>Qg hb hb.size _ _ _ h0
 obtain⟨A0,n0,B0,m0,rfl,rfl⟩:=Qk h0
 clear h0
 have HC1:Hid (∀ w',Below w.heap.size w w'->SlP w' w'.heap.size 1 I3E vl1 l):=fun w' hb=>h1.imp hb hb.size fun _ _ _ h=>h
 obtain⟨A1,n1,rfl,_⟩:=id h1
 have HX0:Hid (∀ W,Below (w.heap.size+1) (w.alloc (.cells #[.slice A0 t.es.length n0,.slice B0 t.ks.length m0] 25)) W->(Below w.heap.size w W/\w.heap.size+1<=(W).heap.size/\t.rd W (W).heap.size (.slice A0 t.es.length n0) (.slice B0 t.ks.length m0)/\SlP W (W).heap.size 1 I3E (.slice A1 l.length n1) l/\(W).cell? ⟨w.heap.size,0,none⟩=some (.slice A0 t.es.length n0)/\(W).cell? ⟨w.heap.size,1,none⟩=some (.slice B0 t.ks.length m0))):=fun W hW=>by
  have g0:W.heap[w.heap.size]?=some (.cells #[.slice A0 t.es.length n0,.slice B0 t.ks.length m0] 25 (0,0)):=(hW.block _ (by omega)).trans (Qh rfl)
  have hB:Below w.heap.size w W:=((Below.refl _ w).alloc (Nat.le_refl _) _).trans (hW.mono (by omega))
  exact⟨hB,by have:=hW.size;simpa using this,HC0.out _ hB,HC1.out _ hB,Qa (i:=0) g0,Qa (i:=1) g0⟩
 go_enter Tryz.func5,Tryz.ntmps5
 obtain⟨RT,HRT⟩:∃ q,Hid (t.right 5=q):=⟨_,rfl⟩
 go_wp2_with fail
 obtain⟨hB,hs,rt0,rl1,c00,c01⟩:=HX0.out _ (Below.refl _ _)
 refine (Zc _).mono ?_
 rintro e w1 ⟨rfl,hb⟩
 have hbk1:Hid (Below (w.heap.size+1) (w.alloc (.cells #[.slice A0 t.es.length n0,.slice B0 t.ks.length m0] 25)) w1):=hid (hb.mono (by first|omega|(simp;done)|(simp;omega)))
 clear hb
 clear hB hs rt0 rl1 c00 c01
 obtain⟨hB,hs,rt0,rl1,c00,c01⟩:=HX0.out _ hbk1.out
 go_wp2_with fail
 refine (Kk t _ _ _ rt0).mono ?_
 rintro e w2 ⟨rfl,hb⟩
 have hbk2:Hid (Below (w.heap.size+1) (w.alloc (.cells #[.slice A0 t.es.length n0,.slice B0 t.ks.length m0] 25)) w2):=hid (hbk1.out.trans (hb.mono (by first|omega|(simp;done)|(simp;omega))))
 clear hb
 clear hB hs rt0 rl1 c00 c01
 obtain⟨hB,hs,rt0,rl1,c00,c01⟩:=HX0.out _ hbk2.out
 cases hs:smlB t 60
 ·clear hs
  go_wp2_with fail
  refine (Zc _).mono ?_
  rintro e w3 ⟨rfl,hb⟩
  have hbk3:Hid (Below (w.heap.size+1) (w.alloc (.cells #[.slice A0 t.es.length n0,.slice B0 t.ks.length m0] 25)) w3):=hid (hbk2.out.trans (hb.mono (by first|omega|(simp;done)|(simp;omega))))
  clear hb
  clear hB hs rt0 rl1 c00 c01
  obtain⟨hB,hs,rt0,rl1,c00,c01⟩:=HX0.out _ hbk3.out
  go_wp2_with fail
  go_ret
  exact⟨rfl,hB⟩
 have hsz:t.sz<=60:=by have:=qJh hs;omega
 clear hs
 go_wp2_with fail
 refine (Zg t _ _ _ rt0).mono ?_
 rw[HRT.out]
 rintro e w3 ⟨rfl,hb⟩
 have hbk3:Hid (Below (w.heap.size+1) (w.alloc (.cells #[.slice A0 t.es.length n0,.slice B0 t.ks.length m0] 25)) w3):=hid (hbk2.out.trans (hb.mono (by first|omega|(simp;done)|(simp;omega))))
 clear hb
 clear hB hs rt0 rl1 c00 c01
 obtain⟨hB,hs,rt0,rl1,c00,c01⟩:=HX0.out _ hbk3.out
 cases RT
 ·skip
  go_wp2_with fail
  refine (Zc _).mono ?_
  rintro e w4 ⟨rfl,hb⟩
  have hbk4:Hid (Below (w.heap.size+1) (w.alloc (.cells #[.slice A0 t.es.length n0,.slice B0 t.ks.length m0] 25)) w4):=hid (hbk3.out.trans (hb.mono (by first|omega|(simp;done)|(simp;omega))))
  clear hb
  clear hB hs rt0 rl1 c00 c01
  obtain⟨hB,hs,rt0,rl1,c00,c01⟩:=HX0.out _ hbk4.out
  go_wp2_with fail
  go_ret
  exact⟨rfl,hB⟩
 by_cases h8:8<l.length
 ·skip
  have h8':decide ((8:Int)<(l.length:Int))=true:=decide_eq_true (by omega)
  go_wp2_with fail
  refine (Zc _).mono ?_
  rintro e w4 ⟨rfl,hb⟩
  have hbk4:Hid (Below (w.heap.size+1) (w.alloc (.cells #[.slice A0 t.es.length n0,.slice B0 t.ks.length m0] 25)) w4):=hid (hbk3.out.trans (hb.mono (by first|omega|(simp;done)|(simp;omega))))
  clear hb
  clear hB hs rt0 rl1 c00 c01
  obtain⟨hB,hs,rt0,rl1,c00,c01⟩:=HX0.out _ hbk4.out
  go_wp2_with fail
  go_ret
  exact⟨rfl,hB⟩
 ·skip
  have h8':decide ((8:Int)<(l.length:Int))=false:=decide_eq_false (by omega)
  by_cases h24:24<=t.es.length
  ·skip
   have h24':decide ((24:Int)<=(t.es.length:Int))=true:=decide_eq_true (by omega)
   have h24'':decide (24<=t.es.length)=true:=decide_eq_true h24
   go_wp2_with fail
   refine (Zc _).mono ?_
   rintro e w4 ⟨rfl,hb⟩
   have hbk4:Hid (Below (w.heap.size+1) (w.alloc (.cells #[.slice A0 t.es.length n0,.slice B0 t.ks.length m0] 25)) w4):=hid (hbk3.out.trans (hb.mono (by first|omega|(simp;done)|(simp;omega))))
   clear hb
   clear hB hs rt0 rl1 c00 c01
   obtain⟨hB,hs,rt0,rl1,c00,c01⟩:=HX0.out _ hbk4.out
   go_wp2_with fail
   go_ret
   exact⟨rfl,hB⟩
  ·skip
   have h24':decide ((24:Int)<=(t.es.length:Int))=false:=decide_eq_false (by omega)
   have h24'':decide (24<=t.es.length)=false:=decide_eq_false h24
   have HN:=hid (Xu HRT.out)
   have HKN:Hid (KOk (t,knC t)):=Yn HRT.out
   go_upto_region 3 with (fail)
   clear hB hs rt0 rl1 c00 c01
   obtain⟨hB,hs,rt0,rl1,c00,c01⟩:=HX0.out _ hbk3.out
   have HBc:=hid hbk3.out
   have HSC:Hid ((w.heap.size+1)<=w3.heap.size):=by have:=hs;unfold Hid;omega
   have HSS:Hid (∀ W,Below w3.heap.size w3 W->(W.cell? ⟨w.heap.size,0,none⟩=some (.slice A0 t.es.length n0)/\W.cell? ⟨w.heap.size,1,none⟩=some (.slice B0 t.ks.length m0))):=fun W hW=>by
    obtain⟨_,_,_,_,z0,z1⟩:=HX0.out W (HBc.out.trans (hW.mono HSC.out))
    exact⟨z0,z1⟩
   have HRT0:Hid (∀ W,Below w3.heap.size w3 W->t.rd W W.heap.size (.slice A0 t.es.length n0) (.slice B0 t.ks.length m0)):=fun W hW=>by
    obtain⟨_,_,z,_,_,_⟩:=HX0.out W (HBc.out.trans (hW.mono HSC.out))
    exact z
   clear hB hs rt0 rl1 c00 c01
   go_cut [5,6] (fun s5 s6 wx=>∃ p q,s5=.pointer (some ⟨p,0,none⟩)/\s6=.pointer (some ⟨q,0,none⟩)/\p≠q/\w3.heap.size<=p/\w3.heap.size<=q/\p<wx.heap.size/\q<wx.heap.size/\TwoB wx p q (t,knC t) (t,knC t)/\Below w3.heap.size w3 wx)
   case first=>
    refine YP (S:=fun W=>(W.cell? ⟨w.heap.size,0,none⟩=some (.slice A0 t.es.length n0)/\W.cell? ⟨w.heap.size,1,none⟩=some (.slice B0 t.ks.length m0))) 6 (by kernel_rfl) (by kernel_rfl) ?_
    simp only[List.take_succ_cons,List.take_zero,List.drop_succ_cons,List.drop_zero]
    have hHeld:=HSS.out w3.drew ((Below.refl _ _).drew)
    refine wpAnyH_take (i:=0) (oi:=_) (v:=?va) rfl (by kernel_rfl) (by kernel_rfl) (by kernel_rfl) (fun _ _ _ h=>h) (Or.inl ⟨by rfl,?ha⟩) (by assumption) ?_
    case ha=>(intro w hSw;(try dsimp only at hSw);go_simp;(try with_reducible rfl))
    simp only[Act.put,List.setIfInBounds_toArray,List.set_cons_zero,List.set_cons_succ,List.getElem_toArray,List.getElem_cons_zero,List.getElem_cons_succ]
    refine wpAnyH_take (i:=2) (oi:=_) (v:=?vb) rfl (by kernel_rfl) (by kernel_rfl) (by kernel_rfl) (fun _ _ _ h=>h) (Or.inl ⟨by rfl,?hb⟩) (by assumption) ?_
    case hb=>(intro w hSw;(try dsimp only at hSw);go_simp;(try with_reducible rfl))
    simp only[Act.put,List.setIfInBounds_toArray,List.set_cons_zero,List.set_cons_succ,List.getElem_toArray,List.getElem_cons_zero,List.getElem_cons_succ]
    have HE0:Hid (Below w3.heap.size w3 w3.drew):=(Below.refl _ _).drew
    have HZ0:Hid (w3.heap.size<=w3.drew.heap.size):=Nat.le_refl _
    obtain⟨u0,hu0⟩:∃ z,z=w3.drew:=⟨_,rfl⟩
    rw[←hu0]at HE0 HZ0 hHeld ⊢
    clear hu0
    have hzc:w3.heap.size<=u0.heap.size:=HZ0.out
    refine wpAnyH_ready (rs:=[1,4,5]) (by kernel_rfl) (by simp) ?_
    refine AllReadyH.cons (o:=_) rfl (fun K hK=>?_) (AllReadyH.cons (o:=_) rfl (fun K hK=>?_) (AllReadyH.cons (o:=_) rfl (fun K hK=>?_) AllReadyH.nil))
    ·skip
     go_simp
     refine (Qm t _ _ _ (HRT0.out _ HE0.out) (by omega) HN.out).mono ?_
     rintro e u1 ⟨xc1,rfl,hsl1,hb1⟩
     obtain⟨D1,kk1,hv1⟩:=hsl1.shape
     subst hv1
     have HSL1:=hid hsl1
     have HL1:=hid hb1
     clear hsl1 hb1
     have HE1:Hid (Below w3.heap.size w3 u1):=HE0.out.trans (HL1.out.mono HZ0.out)
     have HZ1:Hid (w3.heap.size<=u1.heap.size):=HE1.out.size
     have hw1:u0.heap.size<=u1.heap.size:=HL1.out.size
     refine hK.out _ _ ?_ (fun hHeld1=>?_)
     ·exact HSS.out _ HE1.out
     clear hK K
     try simp only[Act.put,List.setIfInBounds_toArray,List.set_cons_zero,List.set_cons_succ,List.getElem_toArray,List.getElem_cons_zero,List.getElem_cons_succ]
     refine wpAnyH_ready (rs:=[3,4,5]) (by kernel_rfl) (by simp) ?_
     refine AllReadyH.cons (o:=_) rfl (fun K hK=>?_) (AllReadyH.cons (o:=_) rfl (fun K hK=>?_) (AllReadyH.cons (o:=_) rfl (fun K hK=>?_) AllReadyH.nil))
     ·skip
      go_simp
      refine (Qm t _ _ _ (HRT0.out _ HE1.out) (by omega) HN.out).mono ?_
      rintro e u2 ⟨xc2,rfl,hsl2,hb2⟩
      obtain⟨D2,kk2,hv2⟩:=hsl2.shape
      subst hv2
      have HSL2:=hid hsl2
      have HL2:=hid hb2
      clear hsl2 hb2
      have HE2:Hid (Below w3.heap.size w3 u2):=HE1.out.trans (HL2.out.mono HZ1.out)
      have HZ2:Hid (w3.heap.size<=u2.heap.size):=HE2.out.size
      have hw2:u1.heap.size<=u2.heap.size:=HL2.out.size
      refine hK.out _ _ ?_ (fun hHeld2=>?_)
      ·exact HSS.out _ HE2.out
      clear hK K
      try simp only[Act.put,List.setIfInBounds_toArray,List.set_cons_zero,List.set_cons_succ,List.getElem_toArray,List.getElem_cons_zero,List.getElem_cons_succ]
      refine wpAnyH_ready (rs:=[4,5]) (by kernel_rfl) (by simp) ?_
      refine AllReadyH.cons (o:=_) rfl (fun K hK=>?_) (AllReadyH.cons (o:=_) rfl (fun K hK=>?_) AllReadyH.nil)
      ·skip
       obtain⟨u3,hu3,hg3,hsz3,hb3⟩:=Qr (u2) (.cells #[.slice none 0 0,.slice none 0 0,.slice none 0 0] 29)
       have HG3:=hid hg3
       have HL3:=hid hb3
       have HE3:Hid (Below w3.heap.size w3 u3):=HE2.out.trans (HL3.out.mono HZ2.out)
       have HZ3:Hid (w3.heap.size<=u3.heap.size):=HE3.out.size
       have hw3:u2.heap.size+1<=u3.heap.size:=by omega
       clear hg3 hsz3 hb3
       go_simp
       rw[←hu3]
       clear hu3
       refine hK.out _ _ ?_ (fun hHeld3=>?_)
       ·exact HSS.out _ HE3.out
       clear hK K
       try simp only[Act.put,List.setIfInBounds_toArray,List.set_cons_zero,List.set_cons_succ,List.getElem_toArray,List.getElem_cons_zero,List.getElem_cons_succ]
       refine wpAnyH_ready (rs:=[5]) (by kernel_rfl) (by simp) ?_
       refine AllReadyH.cons (o:=_) rfl (fun K hK=>?_) AllReadyH.nil
       ·skip
        obtain⟨u4,hu4,hg4,hsz4,hb4⟩:=Qr (u3) (.cells #[.slice none 0 0,.slice none 0 0,.slice none 0 0] 29)
        have HG4:=hid hg4
        have HL4:=hid hb4
        have HE4:Hid (Below w3.heap.size w3 u4):=HE3.out.trans (HL4.out.mono HZ3.out)
        have HZ4:Hid (w3.heap.size<=u4.heap.size):=HE4.out.size
        have hw4:u3.heap.size+1<=u4.heap.size:=by omega
        clear hg4 hsz4 hb4
        go_simp
        rw[←hu4]
        clear hu4
        refine hK.out _ _ ?_ (fun hHeld4=>?_)
        ·exact HSS.out _ HE4.out
        clear hK K
        try simp only[Act.put,List.setIfInBounds_toArray,List.set_cons_zero,List.set_cons_succ,List.getElem_toArray,List.getElem_cons_zero,List.getElem_cons_succ]
        have HP:Hid (u4.heap[u2.heap.size]?=some (.cells #[.slice none 0 0,.slice none 0 0,.slice none 0 0] 29 (0,0))):=(((Below.refl u3.heap.size u3).trans (HL4.out.mono (by omega))).block _ (by omega)).trans HG3.out
        have HQ:Hid (u4.heap[u3.heap.size]?=some (.cells #[.slice none 0 0,.slice none 0 0,.slice none 0 0] 29 (0,0))):=((Below.refl u4.heap.size u4).block _ (by omega)).trans HG4.out
        have hpq:u2.heap.size≠u3.heap.size:=by omega
        have hqp:u3.heap.size≠u2.heap.size:=by omega
        have k0:=Qa (i:=0) HP.out
        have y0:=Qa (i:=0) HQ.out
        have z0:=Qb (i:=0) HP.out
        have x0:=Qb (i:=0) HQ.out
        have k1:=Qa (i:=1) HP.out
        have y1:=Qa (i:=1) HQ.out
        have z1:=Qb (i:=1) HP.out
        have x1:=Qb (i:=1) HQ.out
        have k2:=Qa (i:=2) HP.out
        have y2:=Qa (i:=2) HQ.out
        have z2:=Qb (i:=2) HP.out
        have x2:=Qb (i:=2) HQ.out
        simp only[List.getElem?_toArray,List.getElem?_cons_zero,List.getElem?_cons_succ]at k0 k1 k2 y0 y1 y2
        have hl5:u2.heap.size<u4.heap.size:=by omega
        have hl6:u3.heap.size<u4.heap.size:=by omega
        have HC1:Hid (SlA u4 (fun k=>k≠u2.heap.size/\k≠u3.heap.size/\k<u4.heap.size) 3 SpE (.slice D1 (knC t).length kk1) (knC t)):=HSL1.out.up (fun k hk=>((((Below.refl u1.heap.size u1).trans (HL2.out.mono (by omega))).trans (HL3.out.mono (by omega))).trans (HL4.out.mono (by omega))).block k hk.2) (fun k hk=>⟨by have:=hk.1;first|omega|(simp at this;omega),by have:=hk.1;first|omega|(simp at this;omega),by have:=hk.2;omega⟩) fun _ _ _ h=>h
        have HC2:Hid (SlA u4 (fun k=>k≠u2.heap.size/\k≠u3.heap.size/\k<u4.heap.size) 3 SpE (.slice D2 (knC t).length kk2) (knC t)):=HSL2.out.up (fun k hk=>(((Below.refl u2.heap.size u2).trans (HL3.out.mono (by omega))).trans (HL4.out.mono (by omega))).block k hk.2) (fun k hk=>⟨by have:=hk.1;first|omega|(simp at this;omega),by have:=hk.1;first|omega|(simp at this;omega),by have:=hk.2;omega⟩) fun _ _ _ h=>h
        have HT:Hid (t.rda u4 (fun k=>k≠u2.heap.size/\k≠u3.heap.size/\k<u4.heap.size) (.slice A0 t.es.length n0) (.slice B0 t.ks.length m0)):=Qw (w:=w3) (ok:=fun b=>b<w3.heap.size) (fun k hk=>HE4.out.block k hk) (fun k hk=>⟨by omega,by omega,by omega⟩) _ _ _ (Zk t _ _ |>.1 (HRT0.out _ (Below.refl _ _)))
        have HFI:=hid (QX (J:=(t,knC t)) (K:=(t,knC t)) hpq HP.out HQ.out HT.out HC1.out HT.out HC2.out)
        refine wpAnyH_done (by kernel_rfl) ?_ _
        change wpList _ _ _ _ _ _
        go_wp2_with fail
        change wpList _ _ _ _ _ _
        go_wp2_with fail
        go_meet
        case rel=>
         with_reducible refine⟨_,_,rfl,rfl,hpq,?_,?_,?_,?_,HFI.out.1,?_⟩
         ·omega
         ·omega
         ·rw[HFI.out.2.2];exact hl5
         ·rw[HFI.out.2.2];exact hl6
         ·exact (((((HE4.out.setCell (p:=⟨u2.heap.size,0,none⟩) (by simp;omega) _).setCell (p:=⟨u2.heap.size,1,none⟩) (by simp;omega) _).setCell (p:=⟨u2.heap.size,2,none⟩) (by simp;omega) _).setCell (p:=⟨u3.heap.size,0,none⟩) (by simp;omega) _).setCell (p:=⟨u3.heap.size,1,none⟩) (by simp;omega) _).setCell (p:=⟨u3.heap.size,2,none⟩) (by simp;omega) _
      ·skip
       obtain⟨u5,hu5,hg5,hsz5,hb5⟩:=Qr (u2) (.cells #[.slice none 0 0,.slice none 0 0,.slice none 0 0] 29)
       have HG5:=hid hg5
       have HL5:=hid hb5
       have HE5:Hid (Below w3.heap.size w3 u5):=HE2.out.trans (HL5.out.mono HZ2.out)
       have HZ5:Hid (w3.heap.size<=u5.heap.size):=HE5.out.size
       have hw5:u2.heap.size+1<=u5.heap.size:=by omega
       clear hg5 hsz5 hb5
       go_simp
       rw[←hu5]
       clear hu5
       refine hK.out _ _ ?_ (fun hHeld5=>?_)
       ·exact HSS.out _ HE5.out
       clear hK K
       try simp only[Act.put,List.setIfInBounds_toArray,List.set_cons_zero,List.set_cons_succ,List.getElem_toArray,List.getElem_cons_zero,List.getElem_cons_succ]
       refine wpAnyH_ready (rs:=[4]) (by kernel_rfl) (by simp) ?_
       refine AllReadyH.cons (o:=_) rfl (fun K hK=>?_) AllReadyH.nil
       ·skip
        obtain⟨u6,hu6,hg6,hsz6,hb6⟩:=Qr (u5) (.cells #[.slice none 0 0,.slice none 0 0,.slice none 0 0] 29)
        have HG6:=hid hg6
        have HL6:=hid hb6
        have HE6:Hid (Below w3.heap.size w3 u6):=HE5.out.trans (HL6.out.mono HZ5.out)
        have HZ6:Hid (w3.heap.size<=u6.heap.size):=HE6.out.size
        have hw6:u5.heap.size+1<=u6.heap.size:=by omega
        clear hg6 hsz6 hb6
        go_simp
        rw[←hu6]
        clear hu6
        refine hK.out _ _ ?_ (fun hHeld6=>?_)
        ·exact HSS.out _ HE6.out
        clear hK K
        try simp only[Act.put,List.setIfInBounds_toArray,List.set_cons_zero,List.set_cons_succ,List.getElem_toArray,List.getElem_cons_zero,List.getElem_cons_succ]
        have HP:Hid (u6.heap[u5.heap.size]?=some (.cells #[.slice none 0 0,.slice none 0 0,.slice none 0 0] 29 (0,0))):=((Below.refl u6.heap.size u6).block _ (by omega)).trans HG6.out
        have HQ:Hid (u6.heap[u2.heap.size]?=some (.cells #[.slice none 0 0,.slice none 0 0,.slice none 0 0] 29 (0,0))):=(((Below.refl u5.heap.size u5).trans (HL6.out.mono (by omega))).block _ (by omega)).trans HG5.out
        have hpq:u5.heap.size≠u2.heap.size:=by omega
        have hqp:u2.heap.size≠u5.heap.size:=by omega
        have k0:=Qa (i:=0) HP.out
        have y0:=Qa (i:=0) HQ.out
        have z0:=Qb (i:=0) HP.out
        have x0:=Qb (i:=0) HQ.out
        have k1:=Qa (i:=1) HP.out
        have y1:=Qa (i:=1) HQ.out
        have z1:=Qb (i:=1) HP.out
        have x1:=Qb (i:=1) HQ.out
        have k2:=Qa (i:=2) HP.out
        have y2:=Qa (i:=2) HQ.out
        have z2:=Qb (i:=2) HP.out
        have x2:=Qb (i:=2) HQ.out
        simp only[List.getElem?_toArray,List.getElem?_cons_zero,List.getElem?_cons_succ]at k0 k1 k2 y0 y1 y2
        have hl5:u5.heap.size<u6.heap.size:=by omega
        have hl6:u2.heap.size<u6.heap.size:=by omega
        have HC1:Hid (SlA u6 (fun k=>k≠u5.heap.size/\k≠u2.heap.size/\k<u6.heap.size) 3 SpE (.slice D1 (knC t).length kk1) (knC t)):=HSL1.out.up (fun k hk=>((((Below.refl u1.heap.size u1).trans (HL2.out.mono (by omega))).trans (HL5.out.mono (by omega))).trans (HL6.out.mono (by omega))).block k hk.2) (fun k hk=>⟨by have:=hk.1;first|omega|(simp at this;omega),by have:=hk.1;first|omega|(simp at this;omega),by have:=hk.2;omega⟩) fun _ _ _ h=>h
        have HC2:Hid (SlA u6 (fun k=>k≠u5.heap.size/\k≠u2.heap.size/\k<u6.heap.size) 3 SpE (.slice D2 (knC t).length kk2) (knC t)):=HSL2.out.up (fun k hk=>(((Below.refl u2.heap.size u2).trans (HL5.out.mono (by omega))).trans (HL6.out.mono (by omega))).block k hk.2) (fun k hk=>⟨by have:=hk.1;first|omega|(simp at this;omega),by have:=hk.1;first|omega|(simp at this;omega),by have:=hk.2;omega⟩) fun _ _ _ h=>h
        have HT:Hid (t.rda u6 (fun k=>k≠u5.heap.size/\k≠u2.heap.size/\k<u6.heap.size) (.slice A0 t.es.length n0) (.slice B0 t.ks.length m0)):=Qw (w:=w3) (ok:=fun b=>b<w3.heap.size) (fun k hk=>HE6.out.block k hk) (fun k hk=>⟨by omega,by omega,by omega⟩) _ _ _ (Zk t _ _ |>.1 (HRT0.out _ (Below.refl _ _)))
        have HFI:=hid (QX (J:=(t,knC t)) (K:=(t,knC t)) hpq HP.out HQ.out HT.out HC1.out HT.out HC2.out)
        refine wpAnyH_done (by kernel_rfl) ?_ _
        change wpList _ _ _ _ _ _
        go_wp2_with fail
        change wpList _ _ _ _ _ _
        go_wp2_with fail
        go_meet
        case rel=>
         with_reducible refine⟨_,_,rfl,rfl,hpq,?_,?_,?_,?_,HFI.out.1,?_⟩
         ·omega
         ·omega
         ·rw[HFI.out.2.2];exact hl5
         ·rw[HFI.out.2.2];exact hl6
         ·exact (((((HE6.out.setCell (p:=⟨u5.heap.size,0,none⟩) (by simp;omega) _).setCell (p:=⟨u5.heap.size,1,none⟩) (by simp;omega) _).setCell (p:=⟨u5.heap.size,2,none⟩) (by simp;omega) _).setCell (p:=⟨u2.heap.size,0,none⟩) (by simp;omega) _).setCell (p:=⟨u2.heap.size,1,none⟩) (by simp;omega) _).setCell (p:=⟨u2.heap.size,2,none⟩) (by simp;omega) _
     ·skip
      obtain⟨u7,hu7,hg7,hsz7,hb7⟩:=Qr (u1) (.cells #[.slice none 0 0,.slice none 0 0,.slice none 0 0] 29)
      have HG7:=hid hg7
      have HL7:=hid hb7
      have HE7:Hid (Below w3.heap.size w3 u7):=HE1.out.trans (HL7.out.mono HZ1.out)
      have HZ7:Hid (w3.heap.size<=u7.heap.size):=HE7.out.size
      have hw7:u1.heap.size+1<=u7.heap.size:=by omega
      clear hg7 hsz7 hb7
      go_simp
      rw[←hu7]
      clear hu7
      refine hK.out _ _ ?_ (fun hHeld7=>?_)
      ·exact HSS.out _ HE7.out
      clear hK K
      try simp only[Act.put,List.setIfInBounds_toArray,List.set_cons_zero,List.set_cons_succ,List.getElem_toArray,List.getElem_cons_zero,List.getElem_cons_succ]
      refine wpAnyH_ready (rs:=[3,5]) (by kernel_rfl) (by simp) ?_
      refine AllReadyH.cons (o:=_) rfl (fun K hK=>?_) (AllReadyH.cons (o:=_) rfl (fun K hK=>?_) AllReadyH.nil)
      ·skip
       go_simp
       refine (Qm t _ _ _ (HRT0.out _ HE7.out) (by omega) HN.out).mono ?_
       rintro e u8 ⟨xc8,rfl,hsl8,hb8⟩
       obtain⟨D8,kk8,hv8⟩:=hsl8.shape
       subst hv8
       have HSL8:=hid hsl8
       have HL8:=hid hb8
       clear hsl8 hb8
       have HE8:Hid (Below w3.heap.size w3 u8):=HE7.out.trans (HL8.out.mono HZ7.out)
       have HZ8:Hid (w3.heap.size<=u8.heap.size):=HE8.out.size
       have hw8:u7.heap.size<=u8.heap.size:=HL8.out.size
       refine hK.out _ _ ?_ (fun hHeld8=>?_)
       ·exact HSS.out _ HE8.out
       clear hK K
       try simp only[Act.put,List.setIfInBounds_toArray,List.set_cons_zero,List.set_cons_succ,List.getElem_toArray,List.getElem_cons_zero,List.getElem_cons_succ]
       refine wpAnyH_ready (rs:=[5]) (by kernel_rfl) (by simp) ?_
       refine AllReadyH.cons (o:=_) rfl (fun K hK=>?_) AllReadyH.nil
       ·skip
        obtain⟨u9,hu9,hg9,hsz9,hb9⟩:=Qr (u8) (.cells #[.slice none 0 0,.slice none 0 0,.slice none 0 0] 29)
        have HG9:=hid hg9
        have HL9:=hid hb9
        have HE9:Hid (Below w3.heap.size w3 u9):=HE8.out.trans (HL9.out.mono HZ8.out)
        have HZ9:Hid (w3.heap.size<=u9.heap.size):=HE9.out.size
        have hw9:u8.heap.size+1<=u9.heap.size:=by omega
        clear hg9 hsz9 hb9
        go_simp
        rw[←hu9]
        clear hu9
        refine hK.out _ _ ?_ (fun hHeld9=>?_)
        ·exact HSS.out _ HE9.out
        clear hK K
        try simp only[Act.put,List.setIfInBounds_toArray,List.set_cons_zero,List.set_cons_succ,List.getElem_toArray,List.getElem_cons_zero,List.getElem_cons_succ]
        have HP:Hid (u9.heap[u1.heap.size]?=some (.cells #[.slice none 0 0,.slice none 0 0,.slice none 0 0] 29 (0,0))):=((((Below.refl u7.heap.size u7).trans (HL8.out.mono (by omega))).trans (HL9.out.mono (by omega))).block _ (by omega)).trans HG7.out
        have HQ:Hid (u9.heap[u8.heap.size]?=some (.cells #[.slice none 0 0,.slice none 0 0,.slice none 0 0] 29 (0,0))):=((Below.refl u9.heap.size u9).block _ (by omega)).trans HG9.out
        have hpq:u1.heap.size≠u8.heap.size:=by omega
        have hqp:u8.heap.size≠u1.heap.size:=by omega
        have k0:=Qa (i:=0) HP.out
        have y0:=Qa (i:=0) HQ.out
        have z0:=Qb (i:=0) HP.out
        have x0:=Qb (i:=0) HQ.out
        have k1:=Qa (i:=1) HP.out
        have y1:=Qa (i:=1) HQ.out
        have z1:=Qb (i:=1) HP.out
        have x1:=Qb (i:=1) HQ.out
        have k2:=Qa (i:=2) HP.out
        have y2:=Qa (i:=2) HQ.out
        have z2:=Qb (i:=2) HP.out
        have x2:=Qb (i:=2) HQ.out
        simp only[List.getElem?_toArray,List.getElem?_cons_zero,List.getElem?_cons_succ]at k0 k1 k2 y0 y1 y2
        have hl5:u1.heap.size<u9.heap.size:=by omega
        have hl6:u8.heap.size<u9.heap.size:=by omega
        have HC1:Hid (SlA u9 (fun k=>k≠u1.heap.size/\k≠u8.heap.size/\k<u9.heap.size) 3 SpE (.slice D1 (knC t).length kk1) (knC t)):=HSL1.out.up (fun k hk=>((((Below.refl u1.heap.size u1).trans (HL7.out.mono (by omega))).trans (HL8.out.mono (by omega))).trans (HL9.out.mono (by omega))).block k hk.2) (fun k hk=>⟨by have:=hk.1;first|omega|(simp at this;omega),by have:=hk.1;first|omega|(simp at this;omega),by have:=hk.2;omega⟩) fun _ _ _ h=>h
        have HC2:Hid (SlA u9 (fun k=>k≠u1.heap.size/\k≠u8.heap.size/\k<u9.heap.size) 3 SpE (.slice D8 (knC t).length kk8) (knC t)):=HSL8.out.up (fun k hk=>((Below.refl u8.heap.size u8).trans (HL9.out.mono (by omega))).block k hk.2) (fun k hk=>⟨by have:=hk.1;first|omega|(simp at this;omega),by have:=hk.1;first|omega|(simp at this;omega),by have:=hk.2;omega⟩) fun _ _ _ h=>h
        have HT:Hid (t.rda u9 (fun k=>k≠u1.heap.size/\k≠u8.heap.size/\k<u9.heap.size) (.slice A0 t.es.length n0) (.slice B0 t.ks.length m0)):=Qw (w:=w3) (ok:=fun b=>b<w3.heap.size) (fun k hk=>HE9.out.block k hk) (fun k hk=>⟨by omega,by omega,by omega⟩) _ _ _ (Zk t _ _ |>.1 (HRT0.out _ (Below.refl _ _)))
        have HFI:=hid (QX (J:=(t,knC t)) (K:=(t,knC t)) hpq HP.out HQ.out HT.out HC1.out HT.out HC2.out)
        refine wpAnyH_done (by kernel_rfl) ?_ _
        change wpList _ _ _ _ _ _
        go_wp2_with fail
        change wpList _ _ _ _ _ _
        go_wp2_with fail
        go_meet
        case rel=>
         with_reducible refine⟨_,_,rfl,rfl,hpq,?_,?_,?_,?_,HFI.out.1,?_⟩
         ·omega
         ·omega
         ·rw[HFI.out.2.2];exact hl5
         ·rw[HFI.out.2.2];exact hl6
         ·exact (((((HE9.out.setCell (p:=⟨u1.heap.size,0,none⟩) (by simp;omega) _).setCell (p:=⟨u1.heap.size,1,none⟩) (by simp;omega) _).setCell (p:=⟨u1.heap.size,2,none⟩) (by simp;omega) _).setCell (p:=⟨u8.heap.size,0,none⟩) (by simp;omega) _).setCell (p:=⟨u8.heap.size,1,none⟩) (by simp;omega) _).setCell (p:=⟨u8.heap.size,2,none⟩) (by simp;omega) _
      ·skip
       obtain⟨u10,hu10,hg10,hsz10,hb10⟩:=Qr (u7) (.cells #[.slice none 0 0,.slice none 0 0,.slice none 0 0] 29)
       have HG10:=hid hg10
       have HL10:=hid hb10
       have HE10:Hid (Below w3.heap.size w3 u10):=HE7.out.trans (HL10.out.mono HZ7.out)
       have HZ10:Hid (w3.heap.size<=u10.heap.size):=HE10.out.size
       have hw10:u7.heap.size+1<=u10.heap.size:=by omega
       clear hg10 hsz10 hb10
       go_simp
       rw[←hu10]
       clear hu10
       refine hK.out _ _ ?_ (fun hHeld10=>?_)
       ·exact HSS.out _ HE10.out
       clear hK K
       try simp only[Act.put,List.setIfInBounds_toArray,List.set_cons_zero,List.set_cons_succ,List.getElem_toArray,List.getElem_cons_zero,List.getElem_cons_succ]
       refine wpAnyH_ready (rs:=[3]) (by kernel_rfl) (by simp) ?_
       refine AllReadyH.cons (o:=_) rfl (fun K hK=>?_) AllReadyH.nil
       ·skip
        go_simp
        refine (Qm t _ _ _ (HRT0.out _ HE10.out) (by omega) HN.out).mono ?_
        rintro e u11 ⟨xc11,rfl,hsl11,hb11⟩
        obtain⟨D11,kk11,hv11⟩:=hsl11.shape
        subst hv11
        have HSL11:=hid hsl11
        have HL11:=hid hb11
        clear hsl11 hb11
        have HE11:Hid (Below w3.heap.size w3 u11):=HE10.out.trans (HL11.out.mono HZ10.out)
        have HZ11:Hid (w3.heap.size<=u11.heap.size):=HE11.out.size
        have hw11:u10.heap.size<=u11.heap.size:=HL11.out.size
        refine hK.out _ _ ?_ (fun hHeld11=>?_)
        ·exact HSS.out _ HE11.out
        clear hK K
        try simp only[Act.put,List.setIfInBounds_toArray,List.set_cons_zero,List.set_cons_succ,List.getElem_toArray,List.getElem_cons_zero,List.getElem_cons_succ]
        have HP:Hid (u11.heap[u1.heap.size]?=some (.cells #[.slice none 0 0,.slice none 0 0,.slice none 0 0] 29 (0,0))):=((((Below.refl u7.heap.size u7).trans (HL10.out.mono (by omega))).trans (HL11.out.mono (by omega))).block _ (by omega)).trans HG7.out
        have HQ:Hid (u11.heap[u7.heap.size]?=some (.cells #[.slice none 0 0,.slice none 0 0,.slice none 0 0] 29 (0,0))):=(((Below.refl u10.heap.size u10).trans (HL11.out.mono (by omega))).block _ (by omega)).trans HG10.out
        have hpq:u1.heap.size≠u7.heap.size:=by omega
        have hqp:u7.heap.size≠u1.heap.size:=by omega
        have k0:=Qa (i:=0) HP.out
        have y0:=Qa (i:=0) HQ.out
        have z0:=Qb (i:=0) HP.out
        have x0:=Qb (i:=0) HQ.out
        have k1:=Qa (i:=1) HP.out
        have y1:=Qa (i:=1) HQ.out
        have z1:=Qb (i:=1) HP.out
        have x1:=Qb (i:=1) HQ.out
        have k2:=Qa (i:=2) HP.out
        have y2:=Qa (i:=2) HQ.out
        have z2:=Qb (i:=2) HP.out
        have x2:=Qb (i:=2) HQ.out
        simp only[List.getElem?_toArray,List.getElem?_cons_zero,List.getElem?_cons_succ]at k0 k1 k2 y0 y1 y2
        have hl5:u1.heap.size<u11.heap.size:=by omega
        have hl6:u7.heap.size<u11.heap.size:=by omega
        have HC1:Hid (SlA u11 (fun k=>k≠u1.heap.size/\k≠u7.heap.size/\k<u11.heap.size) 3 SpE (.slice D1 (knC t).length kk1) (knC t)):=HSL1.out.up (fun k hk=>((((Below.refl u1.heap.size u1).trans (HL7.out.mono (by omega))).trans (HL10.out.mono (by omega))).trans (HL11.out.mono (by omega))).block k hk.2) (fun k hk=>⟨by have:=hk.1;first|omega|(simp at this;omega),by have:=hk.1;first|omega|(simp at this;omega),by have:=hk.2;omega⟩) fun _ _ _ h=>h
        have HC2:Hid (SlA u11 (fun k=>k≠u1.heap.size/\k≠u7.heap.size/\k<u11.heap.size) 3 SpE (.slice D11 (knC t).length kk11) (knC t)):=HSL11.out.up (fun k hk=>(Below.refl u11.heap.size u11).block k hk.2) (fun k hk=>⟨by have:=hk.1;first|omega|(simp at this;omega),by have:=hk.1;first|omega|(simp at this;omega),by have:=hk.2;omega⟩) fun _ _ _ h=>h
        have HT:Hid (t.rda u11 (fun k=>k≠u1.heap.size/\k≠u7.heap.size/\k<u11.heap.size) (.slice A0 t.es.length n0) (.slice B0 t.ks.length m0)):=Qw (w:=w3) (ok:=fun b=>b<w3.heap.size) (fun k hk=>HE11.out.block k hk) (fun k hk=>⟨by omega,by omega,by omega⟩) _ _ _ (Zk t _ _ |>.1 (HRT0.out _ (Below.refl _ _)))
        have HFI:=hid (QX (J:=(t,knC t)) (K:=(t,knC t)) hpq HP.out HQ.out HT.out HC1.out HT.out HC2.out)
        refine wpAnyH_done (by kernel_rfl) ?_ _
        change wpList _ _ _ _ _ _
        go_wp2_with fail
        change wpList _ _ _ _ _ _
        go_wp2_with fail
        go_meet
        case rel=>
         with_reducible refine⟨_,_,rfl,rfl,hpq,?_,?_,?_,?_,HFI.out.1,?_⟩
         ·omega
         ·omega
         ·rw[HFI.out.2.2];exact hl5
         ·rw[HFI.out.2.2];exact hl6
         ·exact (((((HE11.out.setCell (p:=⟨u1.heap.size,0,none⟩) (by simp;omega) _).setCell (p:=⟨u1.heap.size,1,none⟩) (by simp;omega) _).setCell (p:=⟨u1.heap.size,2,none⟩) (by simp;omega) _).setCell (p:=⟨u7.heap.size,0,none⟩) (by simp;omega) _).setCell (p:=⟨u7.heap.size,1,none⟩) (by simp;omega) _).setCell (p:=⟨u7.heap.size,2,none⟩) (by simp;omega) _
     ·skip
      obtain⟨u12,hu12,hg12,hsz12,hb12⟩:=Qr (u1) (.cells #[.slice none 0 0,.slice none 0 0,.slice none 0 0] 29)
      have HG12:=hid hg12
      have HL12:=hid hb12
      have HE12:Hid (Below w3.heap.size w3 u12):=HE1.out.trans (HL12.out.mono HZ1.out)
      have HZ12:Hid (w3.heap.size<=u12.heap.size):=HE12.out.size
      have hw12:u1.heap.size+1<=u12.heap.size:=by omega
      clear hg12 hsz12 hb12
      go_simp
      rw[←hu12]
      clear hu12
      refine hK.out _ _ ?_ (fun hHeld12=>?_)
      ·exact HSS.out _ HE12.out
      clear hK K
      try simp only[Act.put,List.setIfInBounds_toArray,List.set_cons_zero,List.set_cons_succ,List.getElem_toArray,List.getElem_cons_zero,List.getElem_cons_succ]
      refine wpAnyH_ready (rs:=[3,4]) (by kernel_rfl) (by simp) ?_
      refine AllReadyH.cons (o:=_) rfl (fun K hK=>?_) (AllReadyH.cons (o:=_) rfl (fun K hK=>?_) AllReadyH.nil)
      ·skip
       go_simp
       refine (Qm t _ _ _ (HRT0.out _ HE12.out) (by omega) HN.out).mono ?_
       rintro e u13 ⟨xc13,rfl,hsl13,hb13⟩
       obtain⟨D13,kk13,hv13⟩:=hsl13.shape
       subst hv13
       have HSL13:=hid hsl13
       have HL13:=hid hb13
       clear hsl13 hb13
       have HE13:Hid (Below w3.heap.size w3 u13):=HE12.out.trans (HL13.out.mono HZ12.out)
       have HZ13:Hid (w3.heap.size<=u13.heap.size):=HE13.out.size
       have hw13:u12.heap.size<=u13.heap.size:=HL13.out.size
       refine hK.out _ _ ?_ (fun hHeld13=>?_)
       ·exact HSS.out _ HE13.out
       clear hK K
       try simp only[Act.put,List.setIfInBounds_toArray,List.set_cons_zero,List.set_cons_succ,List.getElem_toArray,List.getElem_cons_zero,List.getElem_cons_succ]
       refine wpAnyH_ready (rs:=[4]) (by kernel_rfl) (by simp) ?_
       refine AllReadyH.cons (o:=_) rfl (fun K hK=>?_) AllReadyH.nil
       ·skip
        obtain⟨u14,hu14,hg14,hsz14,hb14⟩:=Qr (u13) (.cells #[.slice none 0 0,.slice none 0 0,.slice none 0 0] 29)
        have HG14:=hid hg14
        have HL14:=hid hb14
        have HE14:Hid (Below w3.heap.size w3 u14):=HE13.out.trans (HL14.out.mono HZ13.out)
        have HZ14:Hid (w3.heap.size<=u14.heap.size):=HE14.out.size
        have hw14:u13.heap.size+1<=u14.heap.size:=by omega
        clear hg14 hsz14 hb14
        go_simp
        rw[←hu14]
        clear hu14
        refine hK.out _ _ ?_ (fun hHeld14=>?_)
        ·exact HSS.out _ HE14.out
        clear hK K
        try simp only[Act.put,List.setIfInBounds_toArray,List.set_cons_zero,List.set_cons_succ,List.getElem_toArray,List.getElem_cons_zero,List.getElem_cons_succ]
        have HP:Hid (u14.heap[u13.heap.size]?=some (.cells #[.slice none 0 0,.slice none 0 0,.slice none 0 0] 29 (0,0))):=((Below.refl u14.heap.size u14).block _ (by omega)).trans HG14.out
        have HQ:Hid (u14.heap[u1.heap.size]?=some (.cells #[.slice none 0 0,.slice none 0 0,.slice none 0 0] 29 (0,0))):=((((Below.refl u12.heap.size u12).trans (HL13.out.mono (by omega))).trans (HL14.out.mono (by omega))).block _ (by omega)).trans HG12.out
        have hpq:u13.heap.size≠u1.heap.size:=by omega
        have hqp:u1.heap.size≠u13.heap.size:=by omega
        have k0:=Qa (i:=0) HP.out
        have y0:=Qa (i:=0) HQ.out
        have z0:=Qb (i:=0) HP.out
        have x0:=Qb (i:=0) HQ.out
        have k1:=Qa (i:=1) HP.out
        have y1:=Qa (i:=1) HQ.out
        have z1:=Qb (i:=1) HP.out
        have x1:=Qb (i:=1) HQ.out
        have k2:=Qa (i:=2) HP.out
        have y2:=Qa (i:=2) HQ.out
        have z2:=Qb (i:=2) HP.out
        have x2:=Qb (i:=2) HQ.out
        simp only[List.getElem?_toArray,List.getElem?_cons_zero,List.getElem?_cons_succ]at k0 k1 k2 y0 y1 y2
        have hl5:u13.heap.size<u14.heap.size:=by omega
        have hl6:u1.heap.size<u14.heap.size:=by omega
        have HC1:Hid (SlA u14 (fun k=>k≠u13.heap.size/\k≠u1.heap.size/\k<u14.heap.size) 3 SpE (.slice D1 (knC t).length kk1) (knC t)):=HSL1.out.up (fun k hk=>((((Below.refl u1.heap.size u1).trans (HL12.out.mono (by omega))).trans (HL13.out.mono (by omega))).trans (HL14.out.mono (by omega))).block k hk.2) (fun k hk=>⟨by have:=hk.1;first|omega|(simp at this;omega),by have:=hk.1;first|omega|(simp at this;omega),by have:=hk.2;omega⟩) fun _ _ _ h=>h
        have HC2:Hid (SlA u14 (fun k=>k≠u13.heap.size/\k≠u1.heap.size/\k<u14.heap.size) 3 SpE (.slice D13 (knC t).length kk13) (knC t)):=HSL13.out.up (fun k hk=>((Below.refl u13.heap.size u13).trans (HL14.out.mono (by omega))).block k hk.2) (fun k hk=>⟨by have:=hk.1;first|omega|(simp at this;omega),by have:=hk.1;first|omega|(simp at this;omega),by have:=hk.2;omega⟩) fun _ _ _ h=>h
        have HT:Hid (t.rda u14 (fun k=>k≠u13.heap.size/\k≠u1.heap.size/\k<u14.heap.size) (.slice A0 t.es.length n0) (.slice B0 t.ks.length m0)):=Qw (w:=w3) (ok:=fun b=>b<w3.heap.size) (fun k hk=>HE14.out.block k hk) (fun k hk=>⟨by omega,by omega,by omega⟩) _ _ _ (Zk t _ _ |>.1 (HRT0.out _ (Below.refl _ _)))
        have HFI:=hid (QX (J:=(t,knC t)) (K:=(t,knC t)) hpq HP.out HQ.out HT.out HC1.out HT.out HC2.out)
        refine wpAnyH_done (by kernel_rfl) ?_ _
        change wpList _ _ _ _ _ _
        go_wp2_with fail
        change wpList _ _ _ _ _ _
        go_wp2_with fail
        go_meet
        case rel=>
         with_reducible refine⟨_,_,rfl,rfl,hpq,?_,?_,?_,?_,HFI.out.1,?_⟩
         ·omega
         ·omega
         ·rw[HFI.out.2.2];exact hl5
         ·rw[HFI.out.2.2];exact hl6
         ·exact (((((HE14.out.setCell (p:=⟨u13.heap.size,0,none⟩) (by simp;omega) _).setCell (p:=⟨u13.heap.size,1,none⟩) (by simp;omega) _).setCell (p:=⟨u13.heap.size,2,none⟩) (by simp;omega) _).setCell (p:=⟨u1.heap.size,0,none⟩) (by simp;omega) _).setCell (p:=⟨u1.heap.size,1,none⟩) (by simp;omega) _).setCell (p:=⟨u1.heap.size,2,none⟩) (by simp;omega) _
      ·skip
       obtain⟨u15,hu15,hg15,hsz15,hb15⟩:=Qr (u12) (.cells #[.slice none 0 0,.slice none 0 0,.slice none 0 0] 29)
       have HG15:=hid hg15
       have HL15:=hid hb15
       have HE15:Hid (Below w3.heap.size w3 u15):=HE12.out.trans (HL15.out.mono HZ12.out)
       have HZ15:Hid (w3.heap.size<=u15.heap.size):=HE15.out.size
       have hw15:u12.heap.size+1<=u15.heap.size:=by omega
       clear hg15 hsz15 hb15
       go_simp
       rw[←hu15]
       clear hu15
       refine hK.out _ _ ?_ (fun hHeld15=>?_)
       ·exact HSS.out _ HE15.out
       clear hK K
       try simp only[Act.put,List.setIfInBounds_toArray,List.set_cons_zero,List.set_cons_succ,List.getElem_toArray,List.getElem_cons_zero,List.getElem_cons_succ]
       refine wpAnyH_ready (rs:=[3]) (by kernel_rfl) (by simp) ?_
       refine AllReadyH.cons (o:=_) rfl (fun K hK=>?_) AllReadyH.nil
       ·skip
        go_simp
        refine (Qm t _ _ _ (HRT0.out _ HE15.out) (by omega) HN.out).mono ?_
        rintro e u16 ⟨xc16,rfl,hsl16,hb16⟩
        obtain⟨D16,kk16,hv16⟩:=hsl16.shape
        subst hv16
        have HSL16:=hid hsl16
        have HL16:=hid hb16
        clear hsl16 hb16
        have HE16:Hid (Below w3.heap.size w3 u16):=HE15.out.trans (HL16.out.mono HZ15.out)
        have HZ16:Hid (w3.heap.size<=u16.heap.size):=HE16.out.size
        have hw16:u15.heap.size<=u16.heap.size:=HL16.out.size
        refine hK.out _ _ ?_ (fun hHeld16=>?_)
        ·exact HSS.out _ HE16.out
        clear hK K
        try simp only[Act.put,List.setIfInBounds_toArray,List.set_cons_zero,List.set_cons_succ,List.getElem_toArray,List.getElem_cons_zero,List.getElem_cons_succ]
        have HP:Hid (u16.heap[u12.heap.size]?=some (.cells #[.slice none 0 0,.slice none 0 0,.slice none 0 0] 29 (0,0))):=(((Below.refl u15.heap.size u15).trans (HL16.out.mono (by omega))).block _ (by omega)).trans HG15.out
        have HQ:Hid (u16.heap[u1.heap.size]?=some (.cells #[.slice none 0 0,.slice none 0 0,.slice none 0 0] 29 (0,0))):=((((Below.refl u12.heap.size u12).trans (HL15.out.mono (by omega))).trans (HL16.out.mono (by omega))).block _ (by omega)).trans HG12.out
        have hpq:u12.heap.size≠u1.heap.size:=by omega
        have hqp:u1.heap.size≠u12.heap.size:=by omega
        have k0:=Qa (i:=0) HP.out
        have y0:=Qa (i:=0) HQ.out
        have z0:=Qb (i:=0) HP.out
        have x0:=Qb (i:=0) HQ.out
        have k1:=Qa (i:=1) HP.out
        have y1:=Qa (i:=1) HQ.out
        have z1:=Qb (i:=1) HP.out
        have x1:=Qb (i:=1) HQ.out
        have k2:=Qa (i:=2) HP.out
        have y2:=Qa (i:=2) HQ.out
        have z2:=Qb (i:=2) HP.out
        have x2:=Qb (i:=2) HQ.out
        simp only[List.getElem?_toArray,List.getElem?_cons_zero,List.getElem?_cons_succ]at k0 k1 k2 y0 y1 y2
        have hl5:u12.heap.size<u16.heap.size:=by omega
        have hl6:u1.heap.size<u16.heap.size:=by omega
        have HC1:Hid (SlA u16 (fun k=>k≠u12.heap.size/\k≠u1.heap.size/\k<u16.heap.size) 3 SpE (.slice D1 (knC t).length kk1) (knC t)):=HSL1.out.up (fun k hk=>((((Below.refl u1.heap.size u1).trans (HL12.out.mono (by omega))).trans (HL15.out.mono (by omega))).trans (HL16.out.mono (by omega))).block k hk.2) (fun k hk=>⟨by have:=hk.1;first|omega|(simp at this;omega),by have:=hk.1;first|omega|(simp at this;omega),by have:=hk.2;omega⟩) fun _ _ _ h=>h
        have HC2:Hid (SlA u16 (fun k=>k≠u12.heap.size/\k≠u1.heap.size/\k<u16.heap.size) 3 SpE (.slice D16 (knC t).length kk16) (knC t)):=HSL16.out.up (fun k hk=>(Below.refl u16.heap.size u16).block k hk.2) (fun k hk=>⟨by have:=hk.1;first|omega|(simp at this;omega),by have:=hk.1;first|omega|(simp at this;omega),by have:=hk.2;omega⟩) fun _ _ _ h=>h
        have HT:Hid (t.rda u16 (fun k=>k≠u12.heap.size/\k≠u1.heap.size/\k<u16.heap.size) (.slice A0 t.es.length n0) (.slice B0 t.ks.length m0)):=Qw (w:=w3) (ok:=fun b=>b<w3.heap.size) (fun k hk=>HE16.out.block k hk) (fun k hk=>⟨by omega,by omega,by omega⟩) _ _ _ (Zk t _ _ |>.1 (HRT0.out _ (Below.refl _ _)))
        have HFI:=hid (QX (J:=(t,knC t)) (K:=(t,knC t)) hpq HP.out HQ.out HT.out HC1.out HT.out HC2.out)
        refine wpAnyH_done (by kernel_rfl) ?_ _
        change wpList _ _ _ _ _ _
        go_wp2_with fail
        change wpList _ _ _ _ _ _
        go_wp2_with fail
        go_meet
        case rel=>
         with_reducible refine⟨_,_,rfl,rfl,hpq,?_,?_,?_,?_,HFI.out.1,?_⟩
         ·omega
         ·omega
         ·rw[HFI.out.2.2];exact hl5
         ·rw[HFI.out.2.2];exact hl6
         ·exact (((((HE16.out.setCell (p:=⟨u12.heap.size,0,none⟩) (by simp;omega) _).setCell (p:=⟨u12.heap.size,1,none⟩) (by simp;omega) _).setCell (p:=⟨u12.heap.size,2,none⟩) (by simp;omega) _).setCell (p:=⟨u1.heap.size,0,none⟩) (by simp;omega) _).setCell (p:=⟨u1.heap.size,1,none⟩) (by simp;omega) _).setCell (p:=⟨u1.heap.size,2,none⟩) (by simp;omega) _
    ·skip
     obtain⟨u17,hu17,hg17,hsz17,hb17⟩:=Qr (u0) (.cells #[.slice none 0 0,.slice none 0 0,.slice none 0 0] 29)
     have HG17:=hid hg17
     have HL17:=hid hb17
     have HE17:Hid (Below w3.heap.size w3 u17):=HE0.out.trans (HL17.out.mono HZ0.out)
     have HZ17:Hid (w3.heap.size<=u17.heap.size):=HE17.out.size
     have hw17:u0.heap.size+1<=u17.heap.size:=by omega
     clear hg17 hsz17 hb17
     go_simp
     rw[←hu17]
     clear hu17
     refine hK.out _ _ ?_ (fun hHeld17=>?_)
     ·exact HSS.out _ HE17.out
     clear hK K
     try simp only[Act.put,List.setIfInBounds_toArray,List.set_cons_zero,List.set_cons_succ,List.getElem_toArray,List.getElem_cons_zero,List.getElem_cons_succ]
     refine wpAnyH_ready (rs:=[1,5]) (by kernel_rfl) (by simp) ?_
     refine AllReadyH.cons (o:=_) rfl (fun K hK=>?_) (AllReadyH.cons (o:=_) rfl (fun K hK=>?_) AllReadyH.nil)
     ·skip
      go_simp
      refine (Qm t _ _ _ (HRT0.out _ HE17.out) (by omega) HN.out).mono ?_
      rintro e u18 ⟨xc18,rfl,hsl18,hb18⟩
      obtain⟨D18,kk18,hv18⟩:=hsl18.shape
      subst hv18
      have HSL18:=hid hsl18
      have HL18:=hid hb18
      clear hsl18 hb18
      have HE18:Hid (Below w3.heap.size w3 u18):=HE17.out.trans (HL18.out.mono HZ17.out)
      have HZ18:Hid (w3.heap.size<=u18.heap.size):=HE18.out.size
      have hw18:u17.heap.size<=u18.heap.size:=HL18.out.size
      refine hK.out _ _ ?_ (fun hHeld18=>?_)
      ·exact HSS.out _ HE18.out
      clear hK K
      try simp only[Act.put,List.setIfInBounds_toArray,List.set_cons_zero,List.set_cons_succ,List.getElem_toArray,List.getElem_cons_zero,List.getElem_cons_succ]
      refine wpAnyH_ready (rs:=[3,5]) (by kernel_rfl) (by simp) ?_
      refine AllReadyH.cons (o:=_) rfl (fun K hK=>?_) (AllReadyH.cons (o:=_) rfl (fun K hK=>?_) AllReadyH.nil)
      ·skip
       go_simp
       refine (Qm t _ _ _ (HRT0.out _ HE18.out) (by omega) HN.out).mono ?_
       rintro e u19 ⟨xc19,rfl,hsl19,hb19⟩
       obtain⟨D19,kk19,hv19⟩:=hsl19.shape
       subst hv19
       have HSL19:=hid hsl19
       have HL19:=hid hb19
       clear hsl19 hb19
       have HE19:Hid (Below w3.heap.size w3 u19):=HE18.out.trans (HL19.out.mono HZ18.out)
       have HZ19:Hid (w3.heap.size<=u19.heap.size):=HE19.out.size
       have hw19:u18.heap.size<=u19.heap.size:=HL19.out.size
       refine hK.out _ _ ?_ (fun hHeld19=>?_)
       ·exact HSS.out _ HE19.out
       clear hK K
       try simp only[Act.put,List.setIfInBounds_toArray,List.set_cons_zero,List.set_cons_succ,List.getElem_toArray,List.getElem_cons_zero,List.getElem_cons_succ]
       refine wpAnyH_ready (rs:=[5]) (by kernel_rfl) (by simp) ?_
       refine AllReadyH.cons (o:=_) rfl (fun K hK=>?_) AllReadyH.nil
       ·skip
        obtain⟨u20,hu20,hg20,hsz20,hb20⟩:=Qr (u19) (.cells #[.slice none 0 0,.slice none 0 0,.slice none 0 0] 29)
        have HG20:=hid hg20
        have HL20:=hid hb20
        have HE20:Hid (Below w3.heap.size w3 u20):=HE19.out.trans (HL20.out.mono HZ19.out)
        have HZ20:Hid (w3.heap.size<=u20.heap.size):=HE20.out.size
        have hw20:u19.heap.size+1<=u20.heap.size:=by omega
        clear hg20 hsz20 hb20
        go_simp
        rw[←hu20]
        clear hu20
        refine hK.out _ _ ?_ (fun hHeld20=>?_)
        ·exact HSS.out _ HE20.out
        clear hK K
        try simp only[Act.put,List.setIfInBounds_toArray,List.set_cons_zero,List.set_cons_succ,List.getElem_toArray,List.getElem_cons_zero,List.getElem_cons_succ]
        have HP:Hid (u20.heap[u0.heap.size]?=some (.cells #[.slice none 0 0,.slice none 0 0,.slice none 0 0] 29 (0,0))):=(((((Below.refl u17.heap.size u17).trans (HL18.out.mono (by omega))).trans (HL19.out.mono (by omega))).trans (HL20.out.mono (by omega))).block _ (by omega)).trans HG17.out
        have HQ:Hid (u20.heap[u19.heap.size]?=some (.cells #[.slice none 0 0,.slice none 0 0,.slice none 0 0] 29 (0,0))):=((Below.refl u20.heap.size u20).block _ (by omega)).trans HG20.out
        have hpq:u0.heap.size≠u19.heap.size:=by omega
        have hqp:u19.heap.size≠u0.heap.size:=by omega
        have k0:=Qa (i:=0) HP.out
        have y0:=Qa (i:=0) HQ.out
        have z0:=Qb (i:=0) HP.out
        have x0:=Qb (i:=0) HQ.out
        have k1:=Qa (i:=1) HP.out
        have y1:=Qa (i:=1) HQ.out
        have z1:=Qb (i:=1) HP.out
        have x1:=Qb (i:=1) HQ.out
        have k2:=Qa (i:=2) HP.out
        have y2:=Qa (i:=2) HQ.out
        have z2:=Qb (i:=2) HP.out
        have x2:=Qb (i:=2) HQ.out
        simp only[List.getElem?_toArray,List.getElem?_cons_zero,List.getElem?_cons_succ]at k0 k1 k2 y0 y1 y2
        have hl5:u0.heap.size<u20.heap.size:=by omega
        have hl6:u19.heap.size<u20.heap.size:=by omega
        have HC1:Hid (SlA u20 (fun k=>k≠u0.heap.size/\k≠u19.heap.size/\k<u20.heap.size) 3 SpE (.slice D18 (knC t).length kk18) (knC t)):=HSL18.out.up (fun k hk=>(((Below.refl u18.heap.size u18).trans (HL19.out.mono (by omega))).trans (HL20.out.mono (by omega))).block k hk.2) (fun k hk=>⟨by have:=hk.1;first|omega|(simp at this;omega),by have:=hk.1;first|omega|(simp at this;omega),by have:=hk.2;omega⟩) fun _ _ _ h=>h
        have HC2:Hid (SlA u20 (fun k=>k≠u0.heap.size/\k≠u19.heap.size/\k<u20.heap.size) 3 SpE (.slice D19 (knC t).length kk19) (knC t)):=HSL19.out.up (fun k hk=>((Below.refl u19.heap.size u19).trans (HL20.out.mono (by omega))).block k hk.2) (fun k hk=>⟨by have:=hk.1;first|omega|(simp at this;omega),by have:=hk.1;first|omega|(simp at this;omega),by have:=hk.2;omega⟩) fun _ _ _ h=>h
        have HT:Hid (t.rda u20 (fun k=>k≠u0.heap.size/\k≠u19.heap.size/\k<u20.heap.size) (.slice A0 t.es.length n0) (.slice B0 t.ks.length m0)):=Qw (w:=w3) (ok:=fun b=>b<w3.heap.size) (fun k hk=>HE20.out.block k hk) (fun k hk=>⟨by omega,by omega,by omega⟩) _ _ _ (Zk t _ _ |>.1 (HRT0.out _ (Below.refl _ _)))
        have HFI:=hid (QX (J:=(t,knC t)) (K:=(t,knC t)) hpq HP.out HQ.out HT.out HC1.out HT.out HC2.out)
        refine wpAnyH_done (by kernel_rfl) ?_ _
        change wpList _ _ _ _ _ _
        go_wp2_with fail
        change wpList _ _ _ _ _ _
        go_wp2_with fail
        go_meet
        case rel=>
         with_reducible refine⟨_,_,rfl,rfl,hpq,?_,?_,?_,?_,HFI.out.1,?_⟩
         ·omega
         ·omega
         ·rw[HFI.out.2.2];exact hl5
         ·rw[HFI.out.2.2];exact hl6
         ·exact (((((HE20.out.setCell (p:=⟨u0.heap.size,0,none⟩) (by simp;omega) _).setCell (p:=⟨u0.heap.size,1,none⟩) (by simp;omega) _).setCell (p:=⟨u0.heap.size,2,none⟩) (by simp;omega) _).setCell (p:=⟨u19.heap.size,0,none⟩) (by simp;omega) _).setCell (p:=⟨u19.heap.size,1,none⟩) (by simp;omega) _).setCell (p:=⟨u19.heap.size,2,none⟩) (by simp;omega) _
      ·skip
       obtain⟨u21,hu21,hg21,hsz21,hb21⟩:=Qr (u18) (.cells #[.slice none 0 0,.slice none 0 0,.slice none 0 0] 29)
       have HG21:=hid hg21
       have HL21:=hid hb21
       have HE21:Hid (Below w3.heap.size w3 u21):=HE18.out.trans (HL21.out.mono HZ18.out)
       have HZ21:Hid (w3.heap.size<=u21.heap.size):=HE21.out.size
       have hw21:u18.heap.size+1<=u21.heap.size:=by omega
       clear hg21 hsz21 hb21
       go_simp
       rw[←hu21]
       clear hu21
       refine hK.out _ _ ?_ (fun hHeld21=>?_)
       ·exact HSS.out _ HE21.out
       clear hK K
       try simp only[Act.put,List.setIfInBounds_toArray,List.set_cons_zero,List.set_cons_succ,List.getElem_toArray,List.getElem_cons_zero,List.getElem_cons_succ]
       refine wpAnyH_ready (rs:=[3]) (by kernel_rfl) (by simp) ?_
       refine AllReadyH.cons (o:=_) rfl (fun K hK=>?_) AllReadyH.nil
       ·skip
        go_simp
        refine (Qm t _ _ _ (HRT0.out _ HE21.out) (by omega) HN.out).mono ?_
        rintro e u22 ⟨xc22,rfl,hsl22,hb22⟩
        obtain⟨D22,kk22,hv22⟩:=hsl22.shape
        subst hv22
        have HSL22:=hid hsl22
        have HL22:=hid hb22
        clear hsl22 hb22
        have HE22:Hid (Below w3.heap.size w3 u22):=HE21.out.trans (HL22.out.mono HZ21.out)
        have HZ22:Hid (w3.heap.size<=u22.heap.size):=HE22.out.size
        have hw22:u21.heap.size<=u22.heap.size:=HL22.out.size
        refine hK.out _ _ ?_ (fun hHeld22=>?_)
        ·exact HSS.out _ HE22.out
        clear hK K
        try simp only[Act.put,List.setIfInBounds_toArray,List.set_cons_zero,List.set_cons_succ,List.getElem_toArray,List.getElem_cons_zero,List.getElem_cons_succ]
        have HP:Hid (u22.heap[u0.heap.size]?=some (.cells #[.slice none 0 0,.slice none 0 0,.slice none 0 0] 29 (0,0))):=(((((Below.refl u17.heap.size u17).trans (HL18.out.mono (by omega))).trans (HL21.out.mono (by omega))).trans (HL22.out.mono (by omega))).block _ (by omega)).trans HG17.out
        have HQ:Hid (u22.heap[u18.heap.size]?=some (.cells #[.slice none 0 0,.slice none 0 0,.slice none 0 0] 29 (0,0))):=(((Below.refl u21.heap.size u21).trans (HL22.out.mono (by omega))).block _ (by omega)).trans HG21.out
        have hpq:u0.heap.size≠u18.heap.size:=by omega
        have hqp:u18.heap.size≠u0.heap.size:=by omega
        have k0:=Qa (i:=0) HP.out
        have y0:=Qa (i:=0) HQ.out
        have z0:=Qb (i:=0) HP.out
        have x0:=Qb (i:=0) HQ.out
        have k1:=Qa (i:=1) HP.out
        have y1:=Qa (i:=1) HQ.out
        have z1:=Qb (i:=1) HP.out
        have x1:=Qb (i:=1) HQ.out
        have k2:=Qa (i:=2) HP.out
        have y2:=Qa (i:=2) HQ.out
        have z2:=Qb (i:=2) HP.out
        have x2:=Qb (i:=2) HQ.out
        simp only[List.getElem?_toArray,List.getElem?_cons_zero,List.getElem?_cons_succ]at k0 k1 k2 y0 y1 y2
        have hl5:u0.heap.size<u22.heap.size:=by omega
        have hl6:u18.heap.size<u22.heap.size:=by omega
        have HC1:Hid (SlA u22 (fun k=>k≠u0.heap.size/\k≠u18.heap.size/\k<u22.heap.size) 3 SpE (.slice D18 (knC t).length kk18) (knC t)):=HSL18.out.up (fun k hk=>(((Below.refl u18.heap.size u18).trans (HL21.out.mono (by omega))).trans (HL22.out.mono (by omega))).block k hk.2) (fun k hk=>⟨by have:=hk.1;first|omega|(simp at this;omega),by have:=hk.1;first|omega|(simp at this;omega),by have:=hk.2;omega⟩) fun _ _ _ h=>h
        have HC2:Hid (SlA u22 (fun k=>k≠u0.heap.size/\k≠u18.heap.size/\k<u22.heap.size) 3 SpE (.slice D22 (knC t).length kk22) (knC t)):=HSL22.out.up (fun k hk=>(Below.refl u22.heap.size u22).block k hk.2) (fun k hk=>⟨by have:=hk.1;first|omega|(simp at this;omega),by have:=hk.1;first|omega|(simp at this;omega),by have:=hk.2;omega⟩) fun _ _ _ h=>h
        have HT:Hid (t.rda u22 (fun k=>k≠u0.heap.size/\k≠u18.heap.size/\k<u22.heap.size) (.slice A0 t.es.length n0) (.slice B0 t.ks.length m0)):=Qw (w:=w3) (ok:=fun b=>b<w3.heap.size) (fun k hk=>HE22.out.block k hk) (fun k hk=>⟨by omega,by omega,by omega⟩) _ _ _ (Zk t _ _ |>.1 (HRT0.out _ (Below.refl _ _)))
        have HFI:=hid (QX (J:=(t,knC t)) (K:=(t,knC t)) hpq HP.out HQ.out HT.out HC1.out HT.out HC2.out)
        refine wpAnyH_done (by kernel_rfl) ?_ _
        change wpList _ _ _ _ _ _
        go_wp2_with fail
        change wpList _ _ _ _ _ _
        go_wp2_with fail
        go_meet
        case rel=>
         with_reducible refine⟨_,_,rfl,rfl,hpq,?_,?_,?_,?_,HFI.out.1,?_⟩
         ·omega
         ·omega
         ·rw[HFI.out.2.2];exact hl5
         ·rw[HFI.out.2.2];exact hl6
         ·exact (((((HE22.out.setCell (p:=⟨u0.heap.size,0,none⟩) (by simp;omega) _).setCell (p:=⟨u0.heap.size,1,none⟩) (by simp;omega) _).setCell (p:=⟨u0.heap.size,2,none⟩) (by simp;omega) _).setCell (p:=⟨u18.heap.size,0,none⟩) (by simp;omega) _).setCell (p:=⟨u18.heap.size,1,none⟩) (by simp;omega) _).setCell (p:=⟨u18.heap.size,2,none⟩) (by simp;omega) _
     ·skip
      obtain⟨u23,hu23,hg23,hsz23,hb23⟩:=Qr (u17) (.cells #[.slice none 0 0,.slice none 0 0,.slice none 0 0] 29)
      have HG23:=hid hg23
      have HL23:=hid hb23
      have HE23:Hid (Below w3.heap.size w3 u23):=HE17.out.trans (HL23.out.mono HZ17.out)
      have HZ23:Hid (w3.heap.size<=u23.heap.size):=HE23.out.size
      have hw23:u17.heap.size+1<=u23.heap.size:=by omega
      clear hg23 hsz23 hb23
      go_simp
      rw[←hu23]
      clear hu23
      refine hK.out _ _ ?_ (fun hHeld23=>?_)
      ·exact HSS.out _ HE23.out
      clear hK K
      try simp only[Act.put,List.setIfInBounds_toArray,List.set_cons_zero,List.set_cons_succ,List.getElem_toArray,List.getElem_cons_zero,List.getElem_cons_succ]
      refine wpAnyH_ready (rs:=[1]) (by kernel_rfl) (by simp) ?_
      refine AllReadyH.cons (o:=_) rfl (fun K hK=>?_) AllReadyH.nil
      ·skip
       go_simp
       refine (Qm t _ _ _ (HRT0.out _ HE23.out) (by omega) HN.out).mono ?_
       rintro e u24 ⟨xc24,rfl,hsl24,hb24⟩
       obtain⟨D24,kk24,hv24⟩:=hsl24.shape
       subst hv24
       have HSL24:=hid hsl24
       have HL24:=hid hb24
       clear hsl24 hb24
       have HE24:Hid (Below w3.heap.size w3 u24):=HE23.out.trans (HL24.out.mono HZ23.out)
       have HZ24:Hid (w3.heap.size<=u24.heap.size):=HE24.out.size
       have hw24:u23.heap.size<=u24.heap.size:=HL24.out.size
       refine hK.out _ _ ?_ (fun hHeld24=>?_)
       ·exact HSS.out _ HE24.out
       clear hK K
       try simp only[Act.put,List.setIfInBounds_toArray,List.set_cons_zero,List.set_cons_succ,List.getElem_toArray,List.getElem_cons_zero,List.getElem_cons_succ]
       refine wpAnyH_ready (rs:=[3]) (by kernel_rfl) (by simp) ?_
       refine AllReadyH.cons (o:=_) rfl (fun K hK=>?_) AllReadyH.nil
       ·skip
        go_simp
        refine (Qm t _ _ _ (HRT0.out _ HE24.out) (by omega) HN.out).mono ?_
        rintro e u25 ⟨xc25,rfl,hsl25,hb25⟩
        obtain⟨D25,kk25,hv25⟩:=hsl25.shape
        subst hv25
        have HSL25:=hid hsl25
        have HL25:=hid hb25
        clear hsl25 hb25
        have HE25:Hid (Below w3.heap.size w3 u25):=HE24.out.trans (HL25.out.mono HZ24.out)
        have HZ25:Hid (w3.heap.size<=u25.heap.size):=HE25.out.size
        have hw25:u24.heap.size<=u25.heap.size:=HL25.out.size
        refine hK.out _ _ ?_ (fun hHeld25=>?_)
        ·exact HSS.out _ HE25.out
        clear hK K
        try simp only[Act.put,List.setIfInBounds_toArray,List.set_cons_zero,List.set_cons_succ,List.getElem_toArray,List.getElem_cons_zero,List.getElem_cons_succ]
        have HP:Hid (u25.heap[u0.heap.size]?=some (.cells #[.slice none 0 0,.slice none 0 0,.slice none 0 0] 29 (0,0))):=(((((Below.refl u17.heap.size u17).trans (HL23.out.mono (by omega))).trans (HL24.out.mono (by omega))).trans (HL25.out.mono (by omega))).block _ (by omega)).trans HG17.out
        have HQ:Hid (u25.heap[u17.heap.size]?=some (.cells #[.slice none 0 0,.slice none 0 0,.slice none 0 0] 29 (0,0))):=((((Below.refl u23.heap.size u23).trans (HL24.out.mono (by omega))).trans (HL25.out.mono (by omega))).block _ (by omega)).trans HG23.out
        have hpq:u0.heap.size≠u17.heap.size:=by omega
        have hqp:u17.heap.size≠u0.heap.size:=by omega
        have k0:=Qa (i:=0) HP.out
        have y0:=Qa (i:=0) HQ.out
        have z0:=Qb (i:=0) HP.out
        have x0:=Qb (i:=0) HQ.out
        have k1:=Qa (i:=1) HP.out
        have y1:=Qa (i:=1) HQ.out
        have z1:=Qb (i:=1) HP.out
        have x1:=Qb (i:=1) HQ.out
        have k2:=Qa (i:=2) HP.out
        have y2:=Qa (i:=2) HQ.out
        have z2:=Qb (i:=2) HP.out
        have x2:=Qb (i:=2) HQ.out
        simp only[List.getElem?_toArray,List.getElem?_cons_zero,List.getElem?_cons_succ]at k0 k1 k2 y0 y1 y2
        have hl5:u0.heap.size<u25.heap.size:=by omega
        have hl6:u17.heap.size<u25.heap.size:=by omega
        have HC1:Hid (SlA u25 (fun k=>k≠u0.heap.size/\k≠u17.heap.size/\k<u25.heap.size) 3 SpE (.slice D24 (knC t).length kk24) (knC t)):=HSL24.out.up (fun k hk=>((Below.refl u24.heap.size u24).trans (HL25.out.mono (by omega))).block k hk.2) (fun k hk=>⟨by have:=hk.1;first|omega|(simp at this;omega),by have:=hk.1;first|omega|(simp at this;omega),by have:=hk.2;omega⟩) fun _ _ _ h=>h
        have HC2:Hid (SlA u25 (fun k=>k≠u0.heap.size/\k≠u17.heap.size/\k<u25.heap.size) 3 SpE (.slice D25 (knC t).length kk25) (knC t)):=HSL25.out.up (fun k hk=>(Below.refl u25.heap.size u25).block k hk.2) (fun k hk=>⟨by have:=hk.1;first|omega|(simp at this;omega),by have:=hk.1;first|omega|(simp at this;omega),by have:=hk.2;omega⟩) fun _ _ _ h=>h
        have HT:Hid (t.rda u25 (fun k=>k≠u0.heap.size/\k≠u17.heap.size/\k<u25.heap.size) (.slice A0 t.es.length n0) (.slice B0 t.ks.length m0)):=Qw (w:=w3) (ok:=fun b=>b<w3.heap.size) (fun k hk=>HE25.out.block k hk) (fun k hk=>⟨by omega,by omega,by omega⟩) _ _ _ (Zk t _ _ |>.1 (HRT0.out _ (Below.refl _ _)))
        have HFI:=hid (QX (J:=(t,knC t)) (K:=(t,knC t)) hpq HP.out HQ.out HT.out HC1.out HT.out HC2.out)
        refine wpAnyH_done (by kernel_rfl) ?_ _
        change wpList _ _ _ _ _ _
        go_wp2_with fail
        change wpList _ _ _ _ _ _
        go_wp2_with fail
        go_meet
        case rel=>
         with_reducible refine⟨_,_,rfl,rfl,hpq,?_,?_,?_,?_,HFI.out.1,?_⟩
         ·omega
         ·omega
         ·rw[HFI.out.2.2];exact hl5
         ·rw[HFI.out.2.2];exact hl6
         ·exact (((((HE25.out.setCell (p:=⟨u0.heap.size,0,none⟩) (by simp;omega) _).setCell (p:=⟨u0.heap.size,1,none⟩) (by simp;omega) _).setCell (p:=⟨u0.heap.size,2,none⟩) (by simp;omega) _).setCell (p:=⟨u17.heap.size,0,none⟩) (by simp;omega) _).setCell (p:=⟨u17.heap.size,1,none⟩) (by simp;omega) _).setCell (p:=⟨u17.heap.size,2,none⟩) (by simp;omega) _
    ·skip
     obtain⟨u26,hu26,hg26,hsz26,hb26⟩:=Qr (u0) (.cells #[.slice none 0 0,.slice none 0 0,.slice none 0 0] 29)
     have HG26:=hid hg26
     have HL26:=hid hb26
     have HE26:Hid (Below w3.heap.size w3 u26):=HE0.out.trans (HL26.out.mono HZ0.out)
     have HZ26:Hid (w3.heap.size<=u26.heap.size):=HE26.out.size
     have hw26:u0.heap.size+1<=u26.heap.size:=by omega
     clear hg26 hsz26 hb26
     go_simp
     rw[←hu26]
     clear hu26
     refine hK.out _ _ ?_ (fun hHeld26=>?_)
     ·exact HSS.out _ HE26.out
     clear hK K
     try simp only[Act.put,List.setIfInBounds_toArray,List.set_cons_zero,List.set_cons_succ,List.getElem_toArray,List.getElem_cons_zero,List.getElem_cons_succ]
     refine wpAnyH_ready (rs:=[1,4]) (by kernel_rfl) (by simp) ?_
     refine AllReadyH.cons (o:=_) rfl (fun K hK=>?_) (AllReadyH.cons (o:=_) rfl (fun K hK=>?_) AllReadyH.nil)
     ·skip
      go_simp
      refine (Qm t _ _ _ (HRT0.out _ HE26.out) (by omega) HN.out).mono ?_
      rintro e u27 ⟨xc27,rfl,hsl27,hb27⟩
      obtain⟨D27,kk27,hv27⟩:=hsl27.shape
      subst hv27
      have HSL27:=hid hsl27
      have HL27:=hid hb27
      clear hsl27 hb27
      have HE27:Hid (Below w3.heap.size w3 u27):=HE26.out.trans (HL27.out.mono HZ26.out)
      have HZ27:Hid (w3.heap.size<=u27.heap.size):=HE27.out.size
      have hw27:u26.heap.size<=u27.heap.size:=HL27.out.size
      refine hK.out _ _ ?_ (fun hHeld27=>?_)
      ·exact HSS.out _ HE27.out
      clear hK K
      try simp only[Act.put,List.setIfInBounds_toArray,List.set_cons_zero,List.set_cons_succ,List.getElem_toArray,List.getElem_cons_zero,List.getElem_cons_succ]
      refine wpAnyH_ready (rs:=[3,4]) (by kernel_rfl) (by simp) ?_
      refine AllReadyH.cons (o:=_) rfl (fun K hK=>?_) (AllReadyH.cons (o:=_) rfl (fun K hK=>?_) AllReadyH.nil)
      ·skip
       go_simp
       refine (Qm t _ _ _ (HRT0.out _ HE27.out) (by omega) HN.out).mono ?_
       rintro e u28 ⟨xc28,rfl,hsl28,hb28⟩
       obtain⟨D28,kk28,hv28⟩:=hsl28.shape
       subst hv28
       have HSL28:=hid hsl28
       have HL28:=hid hb28
       clear hsl28 hb28
       have HE28:Hid (Below w3.heap.size w3 u28):=HE27.out.trans (HL28.out.mono HZ27.out)
       have HZ28:Hid (w3.heap.size<=u28.heap.size):=HE28.out.size
       have hw28:u27.heap.size<=u28.heap.size:=HL28.out.size
       refine hK.out _ _ ?_ (fun hHeld28=>?_)
       ·exact HSS.out _ HE28.out
       clear hK K
       try simp only[Act.put,List.setIfInBounds_toArray,List.set_cons_zero,List.set_cons_succ,List.getElem_toArray,List.getElem_cons_zero,List.getElem_cons_succ]
       refine wpAnyH_ready (rs:=[4]) (by kernel_rfl) (by simp) ?_
       refine AllReadyH.cons (o:=_) rfl (fun K hK=>?_) AllReadyH.nil
       ·skip
        obtain⟨u29,hu29,hg29,hsz29,hb29⟩:=Qr (u28) (.cells #[.slice none 0 0,.slice none 0 0,.slice none 0 0] 29)
        have HG29:=hid hg29
        have HL29:=hid hb29
        have HE29:Hid (Below w3.heap.size w3 u29):=HE28.out.trans (HL29.out.mono HZ28.out)
        have HZ29:Hid (w3.heap.size<=u29.heap.size):=HE29.out.size
        have hw29:u28.heap.size+1<=u29.heap.size:=by omega
        clear hg29 hsz29 hb29
        go_simp
        rw[←hu29]
        clear hu29
        refine hK.out _ _ ?_ (fun hHeld29=>?_)
        ·exact HSS.out _ HE29.out
        clear hK K
        try simp only[Act.put,List.setIfInBounds_toArray,List.set_cons_zero,List.set_cons_succ,List.getElem_toArray,List.getElem_cons_zero,List.getElem_cons_succ]
        have HP:Hid (u29.heap[u28.heap.size]?=some (.cells #[.slice none 0 0,.slice none 0 0,.slice none 0 0] 29 (0,0))):=((Below.refl u29.heap.size u29).block _ (by omega)).trans HG29.out
        have HQ:Hid (u29.heap[u0.heap.size]?=some (.cells #[.slice none 0 0,.slice none 0 0,.slice none 0 0] 29 (0,0))):=(((((Below.refl u26.heap.size u26).trans (HL27.out.mono (by omega))).trans (HL28.out.mono (by omega))).trans (HL29.out.mono (by omega))).block _ (by omega)).trans HG26.out
        have hpq:u28.heap.size≠u0.heap.size:=by omega
        have hqp:u0.heap.size≠u28.heap.size:=by omega
        have k0:=Qa (i:=0) HP.out
        have y0:=Qa (i:=0) HQ.out
        have z0:=Qb (i:=0) HP.out
        have x0:=Qb (i:=0) HQ.out
        have k1:=Qa (i:=1) HP.out
        have y1:=Qa (i:=1) HQ.out
        have z1:=Qb (i:=1) HP.out
        have x1:=Qb (i:=1) HQ.out
        have k2:=Qa (i:=2) HP.out
        have y2:=Qa (i:=2) HQ.out
        have z2:=Qb (i:=2) HP.out
        have x2:=Qb (i:=2) HQ.out
        simp only[List.getElem?_toArray,List.getElem?_cons_zero,List.getElem?_cons_succ]at k0 k1 k2 y0 y1 y2
        have hl5:u28.heap.size<u29.heap.size:=by omega
        have hl6:u0.heap.size<u29.heap.size:=by omega
        have HC1:Hid (SlA u29 (fun k=>k≠u28.heap.size/\k≠u0.heap.size/\k<u29.heap.size) 3 SpE (.slice D27 (knC t).length kk27) (knC t)):=HSL27.out.up (fun k hk=>(((Below.refl u27.heap.size u27).trans (HL28.out.mono (by omega))).trans (HL29.out.mono (by omega))).block k hk.2) (fun k hk=>⟨by have:=hk.1;first|omega|(simp at this;omega),by have:=hk.1;first|omega|(simp at this;omega),by have:=hk.2;omega⟩) fun _ _ _ h=>h
        have HC2:Hid (SlA u29 (fun k=>k≠u28.heap.size/\k≠u0.heap.size/\k<u29.heap.size) 3 SpE (.slice D28 (knC t).length kk28) (knC t)):=HSL28.out.up (fun k hk=>((Below.refl u28.heap.size u28).trans (HL29.out.mono (by omega))).block k hk.2) (fun k hk=>⟨by have:=hk.1;first|omega|(simp at this;omega),by have:=hk.1;first|omega|(simp at this;omega),by have:=hk.2;omega⟩) fun _ _ _ h=>h
        have HT:Hid (t.rda u29 (fun k=>k≠u28.heap.size/\k≠u0.heap.size/\k<u29.heap.size) (.slice A0 t.es.length n0) (.slice B0 t.ks.length m0)):=Qw (w:=w3) (ok:=fun b=>b<w3.heap.size) (fun k hk=>HE29.out.block k hk) (fun k hk=>⟨by omega,by omega,by omega⟩) _ _ _ (Zk t _ _ |>.1 (HRT0.out _ (Below.refl _ _)))
        have HFI:=hid (QX (J:=(t,knC t)) (K:=(t,knC t)) hpq HP.out HQ.out HT.out HC1.out HT.out HC2.out)
        refine wpAnyH_done (by kernel_rfl) ?_ _
        change wpList _ _ _ _ _ _
        go_wp2_with fail
        change wpList _ _ _ _ _ _
        go_wp2_with fail
        go_meet
        case rel=>
         with_reducible refine⟨_,_,rfl,rfl,hpq,?_,?_,?_,?_,HFI.out.1,?_⟩
         ·omega
         ·omega
         ·rw[HFI.out.2.2];exact hl5
         ·rw[HFI.out.2.2];exact hl6
         ·exact (((((HE29.out.setCell (p:=⟨u28.heap.size,0,none⟩) (by simp;omega) _).setCell (p:=⟨u28.heap.size,1,none⟩) (by simp;omega) _).setCell (p:=⟨u28.heap.size,2,none⟩) (by simp;omega) _).setCell (p:=⟨u0.heap.size,0,none⟩) (by simp;omega) _).setCell (p:=⟨u0.heap.size,1,none⟩) (by simp;omega) _).setCell (p:=⟨u0.heap.size,2,none⟩) (by simp;omega) _
      ·skip
       obtain⟨u30,hu30,hg30,hsz30,hb30⟩:=Qr (u27) (.cells #[.slice none 0 0,.slice none 0 0,.slice none 0 0] 29)
       have HG30:=hid hg30
       have HL30:=hid hb30
       have HE30:Hid (Below w3.heap.size w3 u30):=HE27.out.trans (HL30.out.mono HZ27.out)
       have HZ30:Hid (w3.heap.size<=u30.heap.size):=HE30.out.size
       have hw30:u27.heap.size+1<=u30.heap.size:=by omega
       clear hg30 hsz30 hb30
       go_simp
       rw[←hu30]
       clear hu30
       refine hK.out _ _ ?_ (fun hHeld30=>?_)
       ·exact HSS.out _ HE30.out
       clear hK K
       try simp only[Act.put,List.setIfInBounds_toArray,List.set_cons_zero,List.set_cons_succ,List.getElem_toArray,List.getElem_cons_zero,List.getElem_cons_succ]
       refine wpAnyH_ready (rs:=[3]) (by kernel_rfl) (by simp) ?_
       refine AllReadyH.cons (o:=_) rfl (fun K hK=>?_) AllReadyH.nil
       ·skip
        go_simp
        refine (Qm t _ _ _ (HRT0.out _ HE30.out) (by omega) HN.out).mono ?_
        rintro e u31 ⟨xc31,rfl,hsl31,hb31⟩
        obtain⟨D31,kk31,hv31⟩:=hsl31.shape
        subst hv31
        have HSL31:=hid hsl31
        have HL31:=hid hb31
        clear hsl31 hb31
        have HE31:Hid (Below w3.heap.size w3 u31):=HE30.out.trans (HL31.out.mono HZ30.out)
        have HZ31:Hid (w3.heap.size<=u31.heap.size):=HE31.out.size
        have hw31:u30.heap.size<=u31.heap.size:=HL31.out.size
        refine hK.out _ _ ?_ (fun hHeld31=>?_)
        ·exact HSS.out _ HE31.out
        clear hK K
        try simp only[Act.put,List.setIfInBounds_toArray,List.set_cons_zero,List.set_cons_succ,List.getElem_toArray,List.getElem_cons_zero,List.getElem_cons_succ]
        have HP:Hid (u31.heap[u27.heap.size]?=some (.cells #[.slice none 0 0,.slice none 0 0,.slice none 0 0] 29 (0,0))):=(((Below.refl u30.heap.size u30).trans (HL31.out.mono (by omega))).block _ (by omega)).trans HG30.out
        have HQ:Hid (u31.heap[u0.heap.size]?=some (.cells #[.slice none 0 0,.slice none 0 0,.slice none 0 0] 29 (0,0))):=(((((Below.refl u26.heap.size u26).trans (HL27.out.mono (by omega))).trans (HL30.out.mono (by omega))).trans (HL31.out.mono (by omega))).block _ (by omega)).trans HG26.out
        have hpq:u27.heap.size≠u0.heap.size:=by omega
        have hqp:u0.heap.size≠u27.heap.size:=by omega
        have k0:=Qa (i:=0) HP.out
        have y0:=Qa (i:=0) HQ.out
        have z0:=Qb (i:=0) HP.out
        have x0:=Qb (i:=0) HQ.out
        have k1:=Qa (i:=1) HP.out
        have y1:=Qa (i:=1) HQ.out
        have z1:=Qb (i:=1) HP.out
        have x1:=Qb (i:=1) HQ.out
        have k2:=Qa (i:=2) HP.out
        have y2:=Qa (i:=2) HQ.out
        have z2:=Qb (i:=2) HP.out
        have x2:=Qb (i:=2) HQ.out
        simp only[List.getElem?_toArray,List.getElem?_cons_zero,List.getElem?_cons_succ]at k0 k1 k2 y0 y1 y2
        have hl5:u27.heap.size<u31.heap.size:=by omega
        have hl6:u0.heap.size<u31.heap.size:=by omega
        have HC1:Hid (SlA u31 (fun k=>k≠u27.heap.size/\k≠u0.heap.size/\k<u31.heap.size) 3 SpE (.slice D27 (knC t).length kk27) (knC t)):=HSL27.out.up (fun k hk=>(((Below.refl u27.heap.size u27).trans (HL30.out.mono (by omega))).trans (HL31.out.mono (by omega))).block k hk.2) (fun k hk=>⟨by have:=hk.1;first|omega|(simp at this;omega),by have:=hk.1;first|omega|(simp at this;omega),by have:=hk.2;omega⟩) fun _ _ _ h=>h
        have HC2:Hid (SlA u31 (fun k=>k≠u27.heap.size/\k≠u0.heap.size/\k<u31.heap.size) 3 SpE (.slice D31 (knC t).length kk31) (knC t)):=HSL31.out.up (fun k hk=>(Below.refl u31.heap.size u31).block k hk.2) (fun k hk=>⟨by have:=hk.1;first|omega|(simp at this;omega),by have:=hk.1;first|omega|(simp at this;omega),by have:=hk.2;omega⟩) fun _ _ _ h=>h
        have HT:Hid (t.rda u31 (fun k=>k≠u27.heap.size/\k≠u0.heap.size/\k<u31.heap.size) (.slice A0 t.es.length n0) (.slice B0 t.ks.length m0)):=Qw (w:=w3) (ok:=fun b=>b<w3.heap.size) (fun k hk=>HE31.out.block k hk) (fun k hk=>⟨by omega,by omega,by omega⟩) _ _ _ (Zk t _ _ |>.1 (HRT0.out _ (Below.refl _ _)))
        have HFI:=hid (QX (J:=(t,knC t)) (K:=(t,knC t)) hpq HP.out HQ.out HT.out HC1.out HT.out HC2.out)
        refine wpAnyH_done (by kernel_rfl) ?_ _
        change wpList _ _ _ _ _ _
        go_wp2_with fail
        change wpList _ _ _ _ _ _
        go_wp2_with fail
        go_meet
        case rel=>
         with_reducible refine⟨_,_,rfl,rfl,hpq,?_,?_,?_,?_,HFI.out.1,?_⟩
         ·omega
         ·omega
         ·rw[HFI.out.2.2];exact hl5
         ·rw[HFI.out.2.2];exact hl6
         ·exact (((((HE31.out.setCell (p:=⟨u27.heap.size,0,none⟩) (by simp;omega) _).setCell (p:=⟨u27.heap.size,1,none⟩) (by simp;omega) _).setCell (p:=⟨u27.heap.size,2,none⟩) (by simp;omega) _).setCell (p:=⟨u0.heap.size,0,none⟩) (by simp;omega) _).setCell (p:=⟨u0.heap.size,1,none⟩) (by simp;omega) _).setCell (p:=⟨u0.heap.size,2,none⟩) (by simp;omega) _
     ·skip
      obtain⟨u32,hu32,hg32,hsz32,hb32⟩:=Qr (u26) (.cells #[.slice none 0 0,.slice none 0 0,.slice none 0 0] 29)
      have HG32:=hid hg32
      have HL32:=hid hb32
      have HE32:Hid (Below w3.heap.size w3 u32):=HE26.out.trans (HL32.out.mono HZ26.out)
      have HZ32:Hid (w3.heap.size<=u32.heap.size):=HE32.out.size
      have hw32:u26.heap.size+1<=u32.heap.size:=by omega
      clear hg32 hsz32 hb32
      go_simp
      rw[←hu32]
      clear hu32
      refine hK.out _ _ ?_ (fun hHeld32=>?_)
      ·exact HSS.out _ HE32.out
      clear hK K
      try simp only[Act.put,List.setIfInBounds_toArray,List.set_cons_zero,List.set_cons_succ,List.getElem_toArray,List.getElem_cons_zero,List.getElem_cons_succ]
      refine wpAnyH_ready (rs:=[1]) (by kernel_rfl) (by simp) ?_
      refine AllReadyH.cons (o:=_) rfl (fun K hK=>?_) AllReadyH.nil
      ·skip
       go_simp
       refine (Qm t _ _ _ (HRT0.out _ HE32.out) (by omega) HN.out).mono ?_
       rintro e u33 ⟨xc33,rfl,hsl33,hb33⟩
       obtain⟨D33,kk33,hv33⟩:=hsl33.shape
       subst hv33
       have HSL33:=hid hsl33
       have HL33:=hid hb33
       clear hsl33 hb33
       have HE33:Hid (Below w3.heap.size w3 u33):=HE32.out.trans (HL33.out.mono HZ32.out)
       have HZ33:Hid (w3.heap.size<=u33.heap.size):=HE33.out.size
       have hw33:u32.heap.size<=u33.heap.size:=HL33.out.size
       refine hK.out _ _ ?_ (fun hHeld33=>?_)
       ·exact HSS.out _ HE33.out
       clear hK K
       try simp only[Act.put,List.setIfInBounds_toArray,List.set_cons_zero,List.set_cons_succ,List.getElem_toArray,List.getElem_cons_zero,List.getElem_cons_succ]
       refine wpAnyH_ready (rs:=[3]) (by kernel_rfl) (by simp) ?_
       refine AllReadyH.cons (o:=_) rfl (fun K hK=>?_) AllReadyH.nil
       ·skip
        go_simp
        refine (Qm t _ _ _ (HRT0.out _ HE33.out) (by omega) HN.out).mono ?_
        rintro e u34 ⟨xc34,rfl,hsl34,hb34⟩
        obtain⟨D34,kk34,hv34⟩:=hsl34.shape
        subst hv34
        have HSL34:=hid hsl34
        have HL34:=hid hb34
        clear hsl34 hb34
        have HE34:Hid (Below w3.heap.size w3 u34):=HE33.out.trans (HL34.out.mono HZ33.out)
        have HZ34:Hid (w3.heap.size<=u34.heap.size):=HE34.out.size
        have hw34:u33.heap.size<=u34.heap.size:=HL34.out.size
        refine hK.out _ _ ?_ (fun hHeld34=>?_)
        ·exact HSS.out _ HE34.out
        clear hK K
        try simp only[Act.put,List.setIfInBounds_toArray,List.set_cons_zero,List.set_cons_succ,List.getElem_toArray,List.getElem_cons_zero,List.getElem_cons_succ]
        have HP:Hid (u34.heap[u26.heap.size]?=some (.cells #[.slice none 0 0,.slice none 0 0,.slice none 0 0] 29 (0,0))):=((((Below.refl u32.heap.size u32).trans (HL33.out.mono (by omega))).trans (HL34.out.mono (by omega))).block _ (by omega)).trans HG32.out
        have HQ:Hid (u34.heap[u0.heap.size]?=some (.cells #[.slice none 0 0,.slice none 0 0,.slice none 0 0] 29 (0,0))):=(((((Below.refl u26.heap.size u26).trans (HL32.out.mono (by omega))).trans (HL33.out.mono (by omega))).trans (HL34.out.mono (by omega))).block _ (by omega)).trans HG26.out
        have hpq:u26.heap.size≠u0.heap.size:=by omega
        have hqp:u0.heap.size≠u26.heap.size:=by omega
        have k0:=Qa (i:=0) HP.out
        have y0:=Qa (i:=0) HQ.out
        have z0:=Qb (i:=0) HP.out
        have x0:=Qb (i:=0) HQ.out
        have k1:=Qa (i:=1) HP.out
        have y1:=Qa (i:=1) HQ.out
        have z1:=Qb (i:=1) HP.out
        have x1:=Qb (i:=1) HQ.out
        have k2:=Qa (i:=2) HP.out
        have y2:=Qa (i:=2) HQ.out
        have z2:=Qb (i:=2) HP.out
        have x2:=Qb (i:=2) HQ.out
        simp only[List.getElem?_toArray,List.getElem?_cons_zero,List.getElem?_cons_succ]at k0 k1 k2 y0 y1 y2
        have hl5:u26.heap.size<u34.heap.size:=by omega
        have hl6:u0.heap.size<u34.heap.size:=by omega
        have HC1:Hid (SlA u34 (fun k=>k≠u26.heap.size/\k≠u0.heap.size/\k<u34.heap.size) 3 SpE (.slice D33 (knC t).length kk33) (knC t)):=HSL33.out.up (fun k hk=>((Below.refl u33.heap.size u33).trans (HL34.out.mono (by omega))).block k hk.2) (fun k hk=>⟨by have:=hk.1;first|omega|(simp at this;omega),by have:=hk.1;first|omega|(simp at this;omega),by have:=hk.2;omega⟩) fun _ _ _ h=>h
        have HC2:Hid (SlA u34 (fun k=>k≠u26.heap.size/\k≠u0.heap.size/\k<u34.heap.size) 3 SpE (.slice D34 (knC t).length kk34) (knC t)):=HSL34.out.up (fun k hk=>(Below.refl u34.heap.size u34).block k hk.2) (fun k hk=>⟨by have:=hk.1;first|omega|(simp at this;omega),by have:=hk.1;first|omega|(simp at this;omega),by have:=hk.2;omega⟩) fun _ _ _ h=>h
        have HT:Hid (t.rda u34 (fun k=>k≠u26.heap.size/\k≠u0.heap.size/\k<u34.heap.size) (.slice A0 t.es.length n0) (.slice B0 t.ks.length m0)):=Qw (w:=w3) (ok:=fun b=>b<w3.heap.size) (fun k hk=>HE34.out.block k hk) (fun k hk=>⟨by omega,by omega,by omega⟩) _ _ _ (Zk t _ _ |>.1 (HRT0.out _ (Below.refl _ _)))
        have HFI:=hid (QX (J:=(t,knC t)) (K:=(t,knC t)) hpq HP.out HQ.out HT.out HC1.out HT.out HC2.out)
        refine wpAnyH_done (by kernel_rfl) ?_ _
        change wpList _ _ _ _ _ _
        go_wp2_with fail
        change wpList _ _ _ _ _ _
        go_wp2_with fail
        go_meet
        case rel=>
         with_reducible refine⟨_,_,rfl,rfl,hpq,?_,?_,?_,?_,HFI.out.1,?_⟩
         ·omega
         ·omega
         ·rw[HFI.out.2.2];exact hl5
         ·rw[HFI.out.2.2];exact hl6
         ·exact (((((HE34.out.setCell (p:=⟨u26.heap.size,0,none⟩) (by simp;omega) _).setCell (p:=⟨u26.heap.size,1,none⟩) (by simp;omega) _).setCell (p:=⟨u26.heap.size,2,none⟩) (by simp;omega) _).setCell (p:=⟨u0.heap.size,0,none⟩) (by simp;omega) _).setCell (p:=⟨u0.heap.size,1,none⟩) (by simp;omega) _).setCell (p:=⟨u0.heap.size,2,none⟩) (by simp;omega) _
   case rest=>
    obtain⟨p,q,rfl,rfl,hpq,hp,hq,hpl,hql,hTB,hbz⟩:=hcut
    obtain⟨w9,hw9⟩:∃ z:World,z=wc:=⟨wc,rfl⟩
    subst hw9
    have HTB:=hid hTB
    have HBZ:=hid hbz
    have hs9:=hbz.size
    clear hTB hbz
    have HF9:Hid (∀ W,Below w9.heap.size w9 W->(Below w.heap.size w W/\t.rd W W.heap.size (.slice A0 t.es.length n0) (.slice B0 t.ks.length m0)/\W.cell? ⟨w.heap.size,0,none⟩=some (.slice A0 t.es.length n0)/\W.cell? ⟨w.heap.size,1,none⟩=some (.slice B0 t.ks.length m0)/\SlP W W.heap.size 1 I3E (.slice A1 l.length n1) l)):=fun W hW=>by
     obtain⟨z0,_,z2,z3,z4,z5⟩:=HX0.out W (HBc.out.trans ((HBZ.out.trans (hW.mono hs9)).mono HSC.out))
     exact⟨z0,z2,z4,z5,z3⟩
    have hwlt:w.heap.size<w9.heap.size:=by have:=HSC.out;omega
    obtain⟨SE,HSE⟩:∃ q,Hid (sumE t.es=q):=⟨_,rfl⟩
    have hbd:∀ e∈t.es,-1099511627776<=e.v/\e.v<=1099511627776:=fun e he=>by
     have:=(HKN.out.leaf ([],e) (Jy.2 he)).2.2
     unfold En.right at this;simp at this;omega
    have hse:=qZl hbd (by omega)
    rw[HSE.out]at hse
    have hse1:-109951162777600<=SE:=by omega
    have hse2:SE<=109951162777600:=by omega
    have HNI:Hid (∀ n∈l,ZB n):=fun n hn=>by
     obtain⟨_,_,hv,_,_,h3⟩:=h1x.out
     obtain⟨j,hj⟩:=List.getElem?_of_mem hn
     obtain⟨b,off,_,_,hc⟩:=h3 (by rintro rfl;cases hn)
     obtain⟨cs,⟨_,hi⟩,_⟩:=hc j n hj
     exact hi
    clear hbd hse
    obtain⟨_,r9,c00,c01,_⟩:=HF9.out _ (Below.refl _ _)
    go_wp2_with fail
    refine (VH t _ _ _ r9).mono ?_
    rw[HSE.out]
    rintro e w10 ⟨rfl,hb10⟩
    have HB10:=hid hb10
    have hs10:=hb10.size
    have HTB10:=hid (TwoB.grow HTB.out hb10)
    clear hb10 r9 c00 c01 HTB
    go_wp2_with fail
    go_loopw [7,8,50] (fun vw va i wr=>∃ k:Nat,k<=l.length/\i=.int .i64 k/\vw=.int .i64 (SE+(l.take k).sum)/\Hid (∀ j,j<k->chkT t (dd j)=true)/\OwnD wr w10.heap.size 29 3 CaA (fun b=>w10.heap.size<=b) va ((cntL l).take k)/\Below w10.heap.size w10 wr) (fun _ _ i _=>l.length-(intOf i).toNat)
    case atStart=>exact⟨0,Nat.zero_le _,rfl,by simp,fun j hj=>absurd hj (Nat.not_lt_zero _),OwnD.nil,Below.refl _ _⟩
    case round=>
     obtain⟨k,hk,rfl,rfl,hch,hown,hb⟩:=hrel
     have HB:=hid hb
     have HOW:=hid hown
     have hsr:=hb.size
     have hsh:=OwnP.shape hown
     have hlk:((cntL l).take k).length=k:=by rw[List.length_take,Q3];omega
     rw[hlk]at hsh
     obtain⟨AA,cA,hva⟩:=hsh
     subst hva
     have hov:=HOW.out.lt
     have HF:=hid (fun (W:World) (hW:Below wr.heap.size wr W)=>HF9.out W (HB10.out.trans ((HB.out.trans (hW.mono hsr)).mono hs10)))
     obtain⟨hBr,_,c00,c01,hl1⟩:=HF.out _ (Below.refl _ _)
     clear hb hown hlk
     obtain⟨Sk,HSk⟩:∃ q,Hid (SE+(l.take k).sum=q):=⟨_,rfl⟩
     rw[HSk.out]
     have hss:=qJm (l.take k) (fun n hn=>HNI.out n (List.mem_of_mem_take hn))
     have hlt1:(l.take k).length<=8:=by rw[List.length_take];omega
     have hSk:=HSk.out
     have hs1:-219902325555200<=Sk:=by omega
     have hs2:Sk<=219902325555200:=by omega
     clear hss hlt1 hSk
     by_cases hlt:k<l.length
     ·have hki:(k:Int)<(l.length:Int):=by omega
      obtain⟨x,hx⟩:∃ x,l[k]?=some x:=⟨_,List.getElem?_eq_getElem hlt⟩
      have HXM:=HNI.out x (List.mem_of_getElem? hx)
      have hx1:-2147483648<=x/\x<=2147483647:=HXM
      obtain⟨_,_,hv1,_,_,h3⟩:=h1x.out
      cases hv1
      obtain⟨b,off,rfl,hbB,hc⟩:=h3 (by rintro rfl;simp at hlt)
      obtain⟨cs,⟨rfl,_⟩,_,hu⟩:=hc k x hx
      have HU:Hid (∀ W,Below w.heap.size w W->W.cell? ⟨b,off+k,none⟩=some (.int .i32 x)):=fun W hW=>by
       have h:=(hW.cell (p:=⟨b,off+k*1+0,none⟩) hbB).trans (hu 0 _ rfl)
       simpa using h
      clear hc hu h3 hl1
      have HTS:Hid (SE+(l.take (k+1)).sum=Sk+x):=by
       unfold Hid
       rw[List.take_add_one,hx,←HSk.out]
       simp;omega
      have HCL:=hid (Kh hx)
      have e1:=HU.out _ hBr
      have hmod:(k:Int).tmod 4=((k % 4:Nat):Int):=by rw[Int.tmod_eq_emod_of_nonneg (by omega)];omega
      have hw4:IntKind.i64.wrap ((k % 4:Nat):Int)=((k % 4:Nat):Int):=IntWalk.i64_in _ (by omega)
      have hwd:IntKind.i64.wrap (1099511627776-(k:Int))=1099511627776-(k:Int):=IntWalk.i64_in _ (by omega)
      have hwx:IntKind.i64.wrap x=x:=IntWalk.i64_in _ (by omega)
      have hwS:IntKind.i64.wrap (Sk+x)=Sk+x:=IntWalk.i64_in _ (by omega)
      have hbD:Below wr.heap.size wr (wr.alloc (.cells #[.int .i64 ((k % 4:Nat):Int),.int .i64 (1099511627776-(k:Int))] 52)):=(Below.refl _ wr).alloc (Nat.le_refl _) _
      have HBD:=hid hbD
      have hwr1:w.heap.size≠wr.heap.size:=by omega
      have hwr2:w.heap.size<wr.heap.size:=by omega
      have hwr3:b<wr.heap.size:=by omega
      have hbw1:b≠wr.heap.size:=by omega
      obtain⟨C,HC⟩:∃ q,Hid (chkT t ⟨((k % 4:Nat):Int),1099511627776-(k:Int)⟩=q):=⟨_,rfl⟩
      clear hbD hx
      go_wp2_with fail
      refine (Jv t ⟨((k % 4:Nat):Int),1099511627776-(k:Int)⟩ _ _ _ (HF.out _ HBD.out).2.1 (by omega)).mono ?_
      rw[HC.out]
      rintro e w11 ⟨rfl,hb11⟩
      have HB11:=hid (HBD.out.trans (hb11.mono (by simp)))
      have hs11:=hb11.size
      rw[World.size_alloc]at hs11
      have HD11:=hid ((hb11.block wr.heap.size (by simp)).trans (Qh rfl))
      clear hb11 c00 c01 e1
      cases C
      ·obtain⟨hB,_⟩:=HF.out _ HB11.out
       go_wp2_with fail
       go_ret
       exact⟨rfl,hB⟩
      have HCH:Hid (∀ j,j<k+1->chkT t (dd j)=true):=fun j hj=>by
       rcases (show j<k∨j=k by omega) with h|rfl
       ·exact hch.out j h
       ·exact HC.out
      obtain⟨hi1,hi2,hi3⟩:=qJl (HCH.out k (by omega)) HXM (by omega)
      have HI1:Hid (incE t x ⟨((k % 4:Nat):Int),1099511627776-(k:Int)⟩=0):=hi1
      obtain⟨XT,HXT⟩:∃ q,Hid ((cntX k x).1=q):=⟨_,rfl⟩
      obtain⟨XC,HXC⟩:∃ q,Hid ((cntX k x).2=q):=⟨_,rfl⟩
      have HI2:Hid (incT t x ⟨((k % 4:Nat):Int),1099511627776-(k:Int)⟩=XT):=hi2.trans HXT.out
      have HI3:Hid (incC t x ⟨((k % 4:Nat):Int),1099511627776-(k:Int)⟩=XC):=hi3.trans HXC.out
      have HXK:Hid (cntX k x=(XT,XC)):=Prod.ext HXT.out HXC.out
      have HIX:Hid (I64 x):=by unfold Hid I64;omega
      have HDO:Hid (Dt.Ok ⟨((k % 4:Nat):Int),1099511627776-(k:Int)⟩):=⟨by unfold I64;simp only;omega,by unfold I64;simp only;omega⟩
      have HKK:Hid (∀ W,Below w11.heap.size w11 W->(W.cell? ⟨w.heap.size,0,none⟩=some (.slice A0 t.es.length n0)/\W.cell? ⟨w.heap.size,1,none⟩=some (.slice B0 t.ks.length m0)/\W.cell? ⟨b,off+k,none⟩=some (.int .i32 x)/\W.cell? ⟨wr.heap.size,0,none⟩=some (.int .i64 ((k % 4:Nat):Int))/\W.cell? ⟨wr.heap.size,1,none⟩=some (.int .i64 (1099511627776-(k:Int))))):=fun W hW=>by
       obtain⟨hB,_,z0,z1,_⟩:=HF.out W (HB11.out.trans (hW.mono HB11.out.size))
       have g:=(hW.block wr.heap.size (by omega)).trans HD11.out
       exact⟨z0,z1,HU.out W hB,Qa (i:=0) g,Qa (i:=1) g⟩
      have HRT1:Hid (∀ W,Below w11.heap.size w11 W->t.rd W W.heap.size (.slice A0 t.es.length n0) (.slice B0 t.ks.length m0)):=fun W hW=>(HF.out W (HB11.out.trans (hW.mono HB11.out.size))).2.1
      clear hi1 hi2 hi3 HXM
      obtain⟨c00,c01,e1,d0,d1⟩:=HKK.out _ (Below.refl _ _)
      have hw111:w.heap.size≠w11.heap.size:=by omega
      have hw112:b≠w11.heap.size:=by omega
      have hw113:wr.heap.size≠w11.heap.size:=by omega
      go_upto_region 12 with (fail)
      go_cut [11,12] (fun s11 s12 wx=>s12=.int .i64 0/\BoxG w11.heap.size w11 29 XT XC s11 wx)
      case first=>
       go_region_held3 (fun W=>W.cell? ⟨w.heap.size,0,none⟩=some (.slice A0 t.es.length n0)/\W.cell? ⟨w.heap.size,1,none⟩=some (.slice B0 t.ks.length m0)/\W.cell? ⟨b,off+k,none⟩=some (.int .i32 x)/\W.cell? ⟨wr.heap.size,0,none⟩=some (.int .i64 ((k % 4:Nat):Int))/\W.cell? ⟨wr.heap.size,1,none⟩=some (.int .i64 (1099511627776-(k:Int))))
        (first|with_reducible exact HKK.out _ hbr4.out|with_reducible exact HKK.out _ (hbr4.out.alloc hsr4 _)|with_reducible exact HKK.out _ (((hbr4.out.setCell (Nat.le_refl _) _).setCell (Nat.le_refl _) _).setCell (Nat.le_refl _) _)|go_keep|exact HKK.out _ (hbr4.out.trans (by go_grown))|exact HKK.out _ (((hbr4.out.setCell (by first|(simp;done)|(simp;omega)) _).setCell (by first|(simp;done)|(simp;omega)) _).setCell (by first|(simp;done)|(simp;omega)) _)|exact HKK.out _ (by go_grown)|fail)
        (first
         |(go_at_call 27;go_loud ((refine (K8 t x ⟨((k % 4:Nat):Int),1099511627776-(k:Int)⟩ _ _ _ (HRT1.out _ (by go_grown)) (by omega) HIX.out HDO.out).mono ?_);rw[HI2.out,HI3.out,HI1.out];rintro e w4 ⟨xe4,xk4,xc4,rfl,hrd4,hsl4,hb⟩;have hbr4:Hid (Below w11.heap.size w11 w4):=hid (Below.trans (by go_grown) (hb.mono (by first|omega|(simp;done)|(simp;omega))));have hsr4:=hbr4.out.size;obtain⟨Ar4,nr4,Br4,mr4,hv1,hv2⟩:=Qp hrd4;subst hv1;subst hv2;obtain⟨Dr4,kr4,hv3⟩:=hsl4.shape;subst hv3;have HR4:=hid hrd4;have HL4:=hid hsl4;clear hrd4 hsl4;(first|(have HG4:Hid (w4.heap[w11.heap.size]?=some (.cells #[.slice none 0 0,.slice none 0 0,.slice none 0 0] 29 (0,0))):=hid (qZo hb);have k0:w4.cell? ⟨w11.heap.size,0,none⟩=some (.slice none 0 0):=Qa (i:=0) HG4.out;have k1:w4.cell? ⟨w11.heap.size,1,none⟩=some (.slice none 0 0):=Qa (i:=1) HG4.out;have k2:w4.cell? ⟨w11.heap.size,2,none⟩=some (.slice none 0 0):=Qa (i:=2) HG4.out;have z0:=Qb (i:=0) HG4.out;have z1:=Qb (i:=1) HG4.out;have z2:=Qb (i:=2) HG4.out)|(have HG4:Hid (w4.heap[w11.heap.size]?=some (.cells #[.slice none 0 0,.slice none 0 0,.slice none 0 0] 29 (0,0))):=hid (z_new hb);have k0:w4.cell? ⟨w11.heap.size,0,none⟩=some (.slice none 0 0):=Qa (i:=0) HG4.out;have k1:w4.cell? ⟨w11.heap.size,1,none⟩=some (.slice none 0 0):=Qa (i:=1) HG4.out;have k2:w4.cell? ⟨w11.heap.size,2,none⟩=some (.slice none 0 0):=Qa (i:=2) HG4.out;have z0:=Qb (i:=0) HG4.out;have z1:=Qb (i:=1) HG4.out;have z2:=Qb (i:=2) HG4.out)|skip);clear hb)))
       all_goals
        go_wp2_with fail
        go_meet
        case rel=>exact⟨rfl,(by first|exact X1 hbr4.out hsr4 (by first|omega|(simp;done)|(simp;omega)) HR4.out HL4.out|exact X2 HG4.out hbr4.out (by omega) (by first|(simp;done)|(simp;omega)) HR4.out HL4.out)⟩
      case rest=>
       obtain⟨rfl,q11,rfl,hq11,xe,xk,xc,hG,hrd,hsl,hbz⟩:=hcut
       obtain⟨w12,hw12⟩:∃ z:World,z=wc:=⟨wc,rfl⟩
       subst hw12
       have hl11:=lt_of_block hG
       have hs12:=hbz.size
       obtain⟨A5,n5,B5,m5,e2,e3⟩:=Qp hrd
       subst e2;subst e3
       obtain⟨C5,c5,e4⟩:=hsl.shape
       subst e4
       obtain⟨f0,f1,f2⟩:=bx3 hG
       have HB12:=hid (HB11.out.trans (hbz.mono HB11.out.size))
       have HBZ12:=hid hbz
       have HR12:=hid hrd
       have HS12:=hid hsl
       have HO12:=hid (HOW.out.grow CaA.mon HB12.out)
       have HLF:Hid (((cntL l).take k).length + [(XT,XC)].length<=Few):=by unfold Hid Few;rw[List.length_take,Q3];simp;omega
       have hbS:Below w12.heap.size w12 (w12.alloc (.cells #[.slice A5 XT.es.length n5,.slice B5 XT.ks.length m5,.slice C5 XC.length c5] 29)):=(Below.refl _ w12).alloc (Nat.le_refl _) _
       have HBS:=hid hbS
       have HXE:Hid (CaA (w12.alloc (.cells #[.slice A5 XT.es.length n5,.slice B5 XT.ks.length m5,.slice C5 XC.length c5] 29)) (fun b=>w10.heap.size<=b/\b<(w12.alloc (.cells #[.slice A5 XT.es.length n5,.slice B5 XT.ks.length m5,.slice C5 XC.length c5] 29)).heap.size/\(Value.slice AA k cA).ownBlock≠some b) (XT,XC) [.slice A5 XT.es.length n5,.slice B5 XT.ks.length m5,.slice C5 XC.length c5]):=by
        have ho:∀ r,w11.heap.size<=r/\r<w12.heap.size->(w10.heap.size<=r/\r<(w12.alloc (.cells #[.slice A5 XT.es.length n5,.slice B5 XT.ks.length m5,.slice C5 XC.length c5] 29)).heap.size/\(Value.slice AA k cA).ownBlock≠some r):=fun r hr=>⟨by omega,by rw[World.size_alloc];omega,fun e=>by have:=(hov r e).2;omega⟩
        exact⟨_,_,_,rfl,Qw (fun r hr=>Qi hr.2) ho _ _ _ HR12.out,HS12.out.up (fun r hr=>Qi hr.2) ho fun _ _ _ h=>h⟩
       clear hG hrd hsl hbz hbS c00 c01 e1 d0 d1
       go_upto_region 16 with (at_builtin;go_loud ((refine YR (v:=.slice AA k cA) rfl (.tmp 75) (.tmp 77) _ rfl CaA.mon eiCa2 (by decide) (by decide) rfl (HO12.out.grow CaA.mon HBS.out) rfl (SlP.oneB (x:=(XT,XC)) (cs:=[.slice A5 XT.es.length n5,.slice B5 XT.ks.length m5,.slice C5 XC.length c5]) HXE.out rfl _ rfl (by simp)) HLF.out (by simp;omega) ?_);intro v1 w13 hown13 hb13 hg13 hor13))
       have HB13:Hid (Below w10.heap.size w10 w13):=hid (((HB.out.trans (HB12.out.mono hsr)).trans (HBS.out.mono (by have:=HB12.out.size;omega))).trans hb13)
       rw[←HXK.out]at hown13
       have hcl:(cntL l).take (k+1)=(cntL l).take k++[cntX k x]:=by rw[List.take_add_one,HCL.out];rfl
       rw[←hcl]at hown13
       have HO13:=hid hown13
       have hbw13:=HF9.out w13 (HB10.out.trans (HB13.out.mono hs10))
       have e1:=HU.out w13 hbw13.1
       clear hcl hown13 hb13 hg13 hor13 hbw13 f0 f1 f2
       go_wp2_with fail
       go_roundw
       case rel=>exact⟨k+1,by omega,by go_num,by rw[HTS.out],HCH,HO13.out,HB13.out⟩
       case measure=>simp[intOf];omega
     ·have hki:¬(k:Int)<(l.length:Int):=by omega
      have hkl:k=l.length:=by omega
      have hSl:Hid (SE+l.sum=Sk):=by have h:=HSk.out;rw[hkl,List.take_of_length_le (Nat.le_refl _)]at h;exact h
      have hchl:∀ j,j<l.length->chkT t (dd j)=true:=fun j hj=>hch.out j (by omega)
      have HO:=hid HOW.out
      rw[show (cntL l).take k=cntL l from List.take_of_length_le (by rw[Q3];omega)]at HO
      have hal:=qYi hchl HNI.out
      have HAL:=hid hal
      obtain⟨hp1,hp2,hp3⟩:=qXu HRT.out hchl HNI.out (by omega) (by omega) (by omega)
      have HP1:=hid hp1
      have HP2:=hid hp2
      have HP3:=hid hp3
      have hTBr:=TwoB.grow HTB10.out HB.out
      have HBcr:Hid (Below w3.heap.size w3 wr):=hid ((HBZ.out.trans (HB10.out.mono hs9)).trans (HB.out.mono (by omega)))
      have HKS:=hid (fun (m:List Kn) (hm:∀ x∈m,x∈cntL l) (hl:m.length<=8)=>qZn (t:=t) (m:=m) HRT.out (by omega) (fun x hx=>hal x (hm x hx)) hl)
      have hsl0:=OwnD.sl HO.out CaA.mon (by rw[Q3];unfold Big;omega)
      have HSL:=hid hsl0
      have hovl:=HO.out.lt
      clear hal hp1 hp2 hp3 hsl0 hch hchl c00 c01 hl1 HTB10
      obtain⟨wl,hwl⟩:∃ wl:World,wl=wr:=⟨_,rfl⟩
      subst hwl
      have HTBL:=hid hTBr
      clear hTBr
      subst hkl
      have hlen:(cntL l).length=l.length:=Q3 l
      go_wp2_with fail
      go_loopw [89] (fun i wr=>∃ k:Nat,k<=l.length/\i=.int .i64 k/\TwoB wr p q (((cntL l).take k).foldl jn (t,knC t)) (((cntL l).reverse.take k).foldl jn (t,knC t))/\(∀ b,b<wl.heap.size->b≠p->b≠q->wr.heap[b]?=wl.heap[b]?)/\wl.heap.size<=wr.heap.size/\Below w3.heap.size w3 wr) (fun i _=>l.length-(intOf i).toNat)
      case atStart=>exact⟨0,Nat.zero_le _,rfl,by simpa using HTBL.out,fun _ _ _ _=>rfl,Nat.le_refl _,HBcr.out⟩
      case round=>
       obtain⟨k,hk,rfl,hTB,hkeep,hsz2,hbw⟩:=hrel
       have HKP:=hid hkeep
       have HBW:=hid hbw
       obtain⟨kA1,kA2,kA3⟩:=HKS.out ((cntL l).take k) (fun x hx=>List.mem_of_mem_take hx) (by rw[List.length_take];omega)
       obtain⟨kB1,kB2,kB3⟩:=HKS.out ((cntL l).reverse.take k) (fun x hx=>List.mem_reverse.1 (List.mem_of_mem_take hx)) (by rw[List.length_take,List.length_reverse];omega)
       obtain⟨⟨JT,JC⟩,HJ⟩:∃ z,Hid (((cntL l).take k).foldl jn (t,knC t)=z):=⟨_,rfl⟩
       obtain⟨⟨KT,KC⟩,HK⟩:∃ z,Hid (((cntL l).reverse.take k).foldl jn (t,knC t)=z):=⟨_,rfl⟩
       rw[HJ.out]at hTB kA1 kA2 kA3
       rw[HK.out]at hTB kB1 kB2 kB3
       simp only at kA2 kA3 kB2 kB3
       obtain⟨va,vb,vc,vd,ve,vf,g1,g2,h3,h4,h5,h6⟩:=hTB
       simp only at h3 h4 h5 h6
       obtain⟨A6,n6,B6,m6,e1,e2⟩:=Qp h3
       subst e1;subst e2
       obtain⟨C6,c6,e3⟩:=h4.shape
       subst e3
       obtain⟨A7,n7,B7,m7,e1,e2⟩:=Qp h5
       subst e1;subst e2
       obtain⟨C7,c7,e3⟩:=h6.shape
       subst e3
       have HG1:=hid g1
       have HG2:=hid g2
       have H3:=hid h3
       have H4:=hid h4
       have H5:=hid h5
       have H6:=hid h6
       have HKA:=hid kA1
       have HKB:=hid kB1
       have hlp:=lt_of_block g1
       have hlq:=lt_of_block g2
       clear g1 g2 h3 h4 h5 h6 kA1 kB1 hkeep hbw
       by_cases hlt:k<l.length
       ·have hki2:(k:Int)<(l.length:Int):=by omega
        obtain⟨m,hm⟩:∃ m:Nat,m=l.length-1-k:=⟨_,rfl⟩
        obtain⟨x,hx⟩:∃ x,(cntL l)[k]?=some x:=⟨_,List.getElem?_eq_getElem (by omega)⟩
        obtain⟨y,hy⟩:∃ y,(cntL l)[m]?=some y:=⟨_,List.getElem?_eq_getElem (by omega)⟩
        have hry:(cntL l).reverse[k]?=some y:=by
         rw[List.getElem?_reverse (by omega),hlen,←hm];exact hy
        have HXK:=hid (HAL.out x (List.mem_of_getElem? hx))
        have HYK:=hid (HAL.out y (List.mem_of_getElem? hy))
        have HJ':Hid (((cntL l).take (k+1)).foldl jn (t,knC t)=jn (JT,JC) x):=by unfold Hid;rw[List.take_add_one,hx,List.foldl_append,HJ.out];rfl
        have HK':Hid (((cntL l).reverse.take (k+1)).foldl jn (t,knC t)=jn (KT,KC) y):=by unfold Hid;rw[List.take_add_one,hry,List.foldl_append,HK.out];rfl
        have hsl1:=HSL.out
        rw[show (Value.slice AA l.length cA)=.slice AA (cntL l).length cA by rw[hlen]]at hsl1
        obtain⟨b,off,rfl,hbl,A8,n8,B8,m8,C8,c8,hxr,hxs,hxu⟩:=qYj hsl1 hx
        obtain⟨b',off',eA,_,A9,n9,B9,m9,C9,c9,hyr,hys,hyu⟩:=qYj hsl1 hy
        cases eA
        have hbo:=hovl b rfl
        obtain⟨XT,XC⟩:=x
        obtain⟨YT,YC⟩:=y
        simp only at hxr hxs hxu hyr hys hyu
        have hxz:=HXK.out.2.1
        have hxl:=HXK.out.2.2
        have hyz:=HYK.out.2.1
        have hyl:=HYK.out.2.2
        simp only at hxz hxl hyz hyl
        have kE:∀ r,(w10.heap.size<=r/\r<wl.heap.size)->wr.heap[r]?=wl.heap[r]?:=fun r hr=>HKP.out r hr.2 (by omega) (by omega)
        have oE:∀ r,(w10.heap.size<=r/\r<wl.heap.size)->r<wr.heap.size:=fun r hr=>by omega
        have HXR:=hid (Qw (ok':=fun r=>r<wr.heap.size) kE oE _ _ _ hxr)
        have HXS:=hid (hxs.up (ok':=fun r=>r<wr.heap.size) kE oE fun _ _ _ h=>h)
        have HYR:=hid (Qw (ok':=fun r=>r<wr.heap.size) kE oE _ _ _ hyr)
        have HYS:=hid (hys.up (ok':=fun r=>r<wr.heap.size) kE oE fun _ _ _ h=>h)
        have hbr:wr.heap[b]?=wl.heap[b]?:=kE b ⟨by omega,by omega⟩
        have HBR:=hid hbr
        have HXU:=hid hxu
        have HYU:=hid hyu
        have HJO:=hid (jn_ok HKA.out HXK.out.1)
        have HKO:=hid (jn_ok HYK.out.1 HKB.out)
        have HCM:=hid (qZg HYK.out.1 HKB.out)
        obtain⟨⟨JT2,JC2⟩,HJ2⟩:∃ z,Hid (jn (JT,JC) (XT,XC)=z):=⟨_,rfl⟩
        obtain⟨⟨KT2,KC2⟩,HK2⟩:∃ z,Hid (jn (YT,YC) (KT,KC)=z):=⟨_,rfl⟩
        have HA1:Hid (jnE JT XT JC XC=0):=HJO.out.1
        have HA2:Hid (jnT JT XT JC XC=JT2):=HJO.out.2.1.trans (congrArg Prod.fst HJ2.out)
        have HA3:Hid (jnC JT XT JC XC=JC2):=HJO.out.2.2.trans (congrArg Prod.snd HJ2.out)
        have HB1:Hid (jnE YT KT YC KC=0):=HKO.out.1
        have HB2:Hid (jnT YT KT YC KC=KT2):=HKO.out.2.1.trans (congrArg Prod.fst HK2.out)
        have HB3:Hid (jnC YT KT YC KC=KC2):=HKO.out.2.2.trans (congrArg Prod.snd HK2.out)
        have HJ3:=hid (HJ'.out.trans HJ2.out)
        have HK3:=hid (HK'.out.trans (HCM.out.symm.trans HK2.out))
        have HQ1:Hid (∀ W,Below wr.heap.size wr W->(W.cell? ⟨p,0,none⟩=some (.slice A6 JT.es.length n6)/\W.cell? ⟨p,1,none⟩=some (.slice B6 JT.ks.length m6)/\W.cell? ⟨p,2,none⟩=some (.slice C6 JC.length c6)/\W.cell? ⟨b,off+k*3,none⟩=some (.slice A8 XT.es.length n8)/\W.cell? ⟨b,off+k*3+1,none⟩=some (.slice B8 XT.ks.length m8)/\W.cell? ⟨b,off+k*3+2,none⟩=some (.slice C8 XC.length c8))):=fun W hW=>by
         have g:=(hW.block p hlp).trans HG1.out
         exact⟨Qa (i:=0) g,Qa (i:=1) g,Qa (i:=2) g,HXU.out W ((hW.block b (by omega)).trans HBR.out)⟩
        have HR1:Hid (∀ W,Below wr.heap.size wr W->(JT.rd W W.heap.size (.slice A6 JT.es.length n6) (.slice B6 JT.ks.length m6)/\SlP W W.heap.size 3 SpE (.slice C6 JC.length c6) JC/\XT.rd W W.heap.size (.slice A8 XT.es.length n8) (.slice B8 XT.ks.length m8)/\SlP W W.heap.size 3 SpE (.slice C8 XC.length c8) XC)):=fun W hW=>
         ⟨YN H3.out (fun _ h=>h.2.2) hW,H4.out.slp (fun _ h=>h.2.2) hW,YN HXR.out (fun _ h=>h) hW,HXS.out.slp (fun _ h=>h) hW⟩
        have hwn:IntKind.i64.wrap ((l.length:Int)-1)=(l.length:Int)-1:=IntWalk.i64_in _ (by omega)
        have hwm:IntKind.i64.wrap ((l.length:Int)-1-(k:Int))=(m:Int):=by rw[IntWalk.i64_in _ (by omega)];omega
        have hmi:(m:Int)<(l.length:Int):=by omega
        have hb1:b≠wr.heap.size:=by omega
        have hb2:p≠wr.heap.size:=by omega
        have hb3:q≠wr.heap.size:=by omega
        clear hm hx hy hry hsl1 hxr hxs hxu hyr hys hyu kE oE hbr HJO HKO
        obtain⟨j0,j1,j2,j3,j4,j5⟩:=HQ1.out _ (Below.refl _ _)
        go_upto_region 21 with (fail)
        go_cut [14,15] (fun s14 s15 wx=>s15=.int .i64 0/\BoxG wr.heap.size wr 29 JT2 JC2 s14 wx)
        case first=>
         go_region_held3 (fun W=>W.cell? ⟨p,0,none⟩=some (.slice A6 JT.es.length n6)/\W.cell? ⟨p,1,none⟩=some (.slice B6 JT.ks.length m6)/\W.cell? ⟨p,2,none⟩=some (.slice C6 JC.length c6)/\W.cell? ⟨b,off+k*3,none⟩=some (.slice A8 XT.es.length n8)/\W.cell? ⟨b,off+k*3+1,none⟩=some (.slice B8 XT.ks.length m8)/\W.cell? ⟨b,off+k*3+2,none⟩=some (.slice C8 XC.length c8))
          (first|with_reducible exact HQ1.out _ hbr4.out|with_reducible exact HQ1.out _ (hbr4.out.alloc hsr4 _)|with_reducible exact HQ1.out _ (((hbr4.out.setCell (Nat.le_refl _) _).setCell (Nat.le_refl _) _).setCell (Nat.le_refl _) _)|go_keep|exact HQ1.out _ (hbr4.out.trans (by go_grown))|exact HQ1.out _ (((hbr4.out.setCell (by first|(simp;done)|(simp;omega)) _).setCell (by first|(simp;done)|(simp;omega)) _).setCell (by first|(simp;done)|(simp;omega)) _)|exact HQ1.out _ (by go_grown)|fail)
          (first
           |(go_at_call 28;go_loud ((refine (JE JC XC JT XT _ _ _ _ _ _ _ (HR1.out _ (by go_grown)).1 (HR1.out _ (by go_grown)).2.2.1 (HR1.out _ (by go_grown)).2.1 (HR1.out _ (by go_grown)).2.2.2 (by omega) (by omega) (by omega) (by omega)).mono ?_);rw[HA2.out,HA3.out,HA1.out];rintro e w4 ⟨xe4,xk4,xc4,rfl,hrd4,hsl4,hb⟩;have hbr4:Hid (Below wr.heap.size wr w4):=hid (Below.trans (by go_grown) (hb.mono (by first|omega|(simp;done)|(simp;omega))));have hsr4:=hbr4.out.size;obtain⟨Ar4,nr4,Br4,mr4,hv1,hv2⟩:=Qp hrd4;subst hv1;subst hv2;obtain⟨Dr4,kr4,hv3⟩:=hsl4.shape;subst hv3;have HR4:=hid hrd4;have HL4:=hid hsl4;clear hrd4 hsl4;(first|(have HG4:Hid (w4.heap[wr.heap.size]?=some (.cells #[.slice none 0 0,.slice none 0 0,.slice none 0 0] 29 (0,0))):=hid (qZo hb);have k0:w4.cell? ⟨wr.heap.size,0,none⟩=some (.slice none 0 0):=Qa (i:=0) HG4.out;have k1:w4.cell? ⟨wr.heap.size,1,none⟩=some (.slice none 0 0):=Qa (i:=1) HG4.out;have k2:w4.cell? ⟨wr.heap.size,2,none⟩=some (.slice none 0 0):=Qa (i:=2) HG4.out;have z0:=Qb (i:=0) HG4.out;have z1:=Qb (i:=1) HG4.out;have z2:=Qb (i:=2) HG4.out)|(have HG4:Hid (w4.heap[wr.heap.size]?=some (.cells #[.slice none 0 0,.slice none 0 0,.slice none 0 0] 29 (0,0))):=hid (z_new hb);have k0:w4.cell? ⟨wr.heap.size,0,none⟩=some (.slice none 0 0):=Qa (i:=0) HG4.out;have k1:w4.cell? ⟨wr.heap.size,1,none⟩=some (.slice none 0 0):=Qa (i:=1) HG4.out;have k2:w4.cell? ⟨wr.heap.size,2,none⟩=some (.slice none 0 0):=Qa (i:=2) HG4.out;have z0:=Qb (i:=0) HG4.out;have z1:=Qb (i:=1) HG4.out;have z2:=Qb (i:=2) HG4.out)|skip);clear hb)))
         all_goals
          go_wp2_with fail
          go_meet
          case rel=>exact⟨rfl,(by first|exact X1 hbr4.out hsr4 (by first|omega|(simp;done)|(simp;omega)) HR4.out HL4.out|exact X2 HG4.out hbr4.out (by omega) (by first|(simp;done)|(simp;omega)) HR4.out HL4.out)⟩
        case rest=>
         obtain⟨rfl,q14,rfl,hq14,xe,xk,xc,hG14,hrd14,hsl14,hb14⟩:=hcut
         obtain⟨w21,hw21⟩:∃ z:World,z=wc:=⟨wc,rfl⟩
         subst hw21
         have hl14:=lt_of_block hG14
         have hs21:=hb14.size
         obtain⟨Aj,nj,Bj,mj,e2,e3⟩:=Qp hrd14
         subst e2;subst e3
         obtain⟨Cj,cj,e4⟩:=hsl14.shape
         subst e4
         have HB14:=hid hb14
         have HG14:=hid hG14
         have HR14:=hid hrd14
         have HS14:=hid hsl14
         have HQ2:Hid (∀ W,Below w21.heap.size w21 W->(W.cell? ⟨q,0,none⟩=some (.slice A7 KT.es.length n7)/\W.cell? ⟨q,1,none⟩=some (.slice B7 KT.ks.length m7)/\W.cell? ⟨q,2,none⟩=some (.slice C7 KC.length c7)/\W.cell? ⟨b,off+m*3,none⟩=some (.slice A9 YT.es.length n9)/\W.cell? ⟨b,off+m*3+1,none⟩=some (.slice B9 YT.ks.length m9)/\W.cell? ⟨b,off+m*3+2,none⟩=some (.slice C9 YC.length c9))):=fun W hW=>by
          have g:=(hW.block q (by omega)).trans ((HB14.out.block q hlq).trans HG2.out)
          exact⟨Qa (i:=0) g,Qa (i:=1) g,Qa (i:=2) g,HYU.out W ((hW.block b (by omega)).trans ((HB14.out.block b (by omega)).trans HBR.out))⟩
         have HR2:Hid (∀ W,Below w21.heap.size w21 W->(YT.rd W W.heap.size (.slice A9 YT.es.length n9) (.slice B9 YT.ks.length m9)/\SlP W W.heap.size 3 SpE (.slice C9 YC.length c9) YC/\KT.rd W W.heap.size (.slice A7 KT.es.length n7) (.slice B7 KT.ks.length m7)/\SlP W W.heap.size 3 SpE (.slice C7 KC.length c7) KC)):=fun W hW=>by
          have hW':=HB14.out.trans (hW.mono hs21)
          exact⟨YN HYR.out (fun _ h=>h) hW',HYS.out.slp (fun _ h=>h) hW',YN H5.out (fun _ h=>h.2.2) hW',H6.out.slp (fun _ h=>h.2.2) hW'⟩
         have hb4:b≠w21.heap.size:=by omega
         have hb5:q≠w21.heap.size:=by omega
         have hb6:q14≠w21.heap.size:=by omega
         clear hG14 hrd14 hsl14 hb14 j0 j1 j2 j3 j4 j5
         obtain⟨j0,j1,j2,j3,j4,j5⟩:=HQ2.out _ (Below.refl _ _)
         go_upto_region 22 with (fail)
         go_cut [16,17] (fun s16 s17 wx=>s17=.int .i64 0/\BoxG w21.heap.size w21 29 KT2 KC2 s16 wx)
         case first=>
          go_region_held3 (fun W=>W.cell? ⟨q,0,none⟩=some (.slice A7 KT.es.length n7)/\W.cell? ⟨q,1,none⟩=some (.slice B7 KT.ks.length m7)/\W.cell? ⟨q,2,none⟩=some (.slice C7 KC.length c7)/\W.cell? ⟨b,off+m*3,none⟩=some (.slice A9 YT.es.length n9)/\W.cell? ⟨b,off+m*3+1,none⟩=some (.slice B9 YT.ks.length m9)/\W.cell? ⟨b,off+m*3+2,none⟩=some (.slice C9 YC.length c9))
           (first|with_reducible exact HQ2.out _ hbr4.out|with_reducible exact HQ2.out _ (hbr4.out.alloc hsr4 _)|with_reducible exact HQ2.out _ (((hbr4.out.setCell (Nat.le_refl _) _).setCell (Nat.le_refl _) _).setCell (Nat.le_refl _) _)|go_keep|exact HQ2.out _ (hbr4.out.trans (by go_grown))|exact HQ2.out _ (((hbr4.out.setCell (by first|(simp;done)|(simp;omega)) _).setCell (by first|(simp;done)|(simp;omega)) _).setCell (by first|(simp;done)|(simp;omega)) _)|exact HQ2.out _ (by go_grown)|fail)
           (first
            |(go_at_call 28;go_loud ((refine (JE YC KC YT KT _ _ _ _ _ _ _ (HR2.out _ (by go_grown)).1 (HR2.out _ (by go_grown)).2.2.1 (HR2.out _ (by go_grown)).2.1 (HR2.out _ (by go_grown)).2.2.2 (by omega) (by omega) (by omega) (by omega)).mono ?_);rw[HB2.out,HB3.out,HB1.out];rintro e w4 ⟨xe4,xk4,xc4,rfl,hrd4,hsl4,hb⟩;have hbr4:Hid (Below w21.heap.size w21 w4):=hid (Below.trans (by go_grown) (hb.mono (by first|omega|(simp;done)|(simp;omega))));have hsr4:=hbr4.out.size;obtain⟨Ar4,nr4,Br4,mr4,hv1,hv2⟩:=Qp hrd4;subst hv1;subst hv2;obtain⟨Dr4,kr4,hv3⟩:=hsl4.shape;subst hv3;have HR4:=hid hrd4;have HL4:=hid hsl4;clear hrd4 hsl4;(first|(have HG4:Hid (w4.heap[w21.heap.size]?=some (.cells #[.slice none 0 0,.slice none 0 0,.slice none 0 0] 29 (0,0))):=hid (qZo hb);have k0:w4.cell? ⟨w21.heap.size,0,none⟩=some (.slice none 0 0):=Qa (i:=0) HG4.out;have k1:w4.cell? ⟨w21.heap.size,1,none⟩=some (.slice none 0 0):=Qa (i:=1) HG4.out;have k2:w4.cell? ⟨w21.heap.size,2,none⟩=some (.slice none 0 0):=Qa (i:=2) HG4.out;have z0:=Qb (i:=0) HG4.out;have z1:=Qb (i:=1) HG4.out;have z2:=Qb (i:=2) HG4.out)|(have HG4:Hid (w4.heap[w21.heap.size]?=some (.cells #[.slice none 0 0,.slice none 0 0,.slice none 0 0] 29 (0,0))):=hid (z_new hb);have k0:w4.cell? ⟨w21.heap.size,0,none⟩=some (.slice none 0 0):=Qa (i:=0) HG4.out;have k1:w4.cell? ⟨w21.heap.size,1,none⟩=some (.slice none 0 0):=Qa (i:=1) HG4.out;have k2:w4.cell? ⟨w21.heap.size,2,none⟩=some (.slice none 0 0):=Qa (i:=2) HG4.out;have z0:=Qb (i:=0) HG4.out;have z1:=Qb (i:=1) HG4.out;have z2:=Qb (i:=2) HG4.out)|skip);clear hb)))
          all_goals
           go_wp2_with fail
           go_meet
           case rel=>exact⟨rfl,(by first|exact X1 hbr4.out hsr4 (by first|omega|(simp;done)|(simp;omega)) HR4.out HL4.out|exact X2 HG4.out hbr4.out (by omega) (by first|(simp;done)|(simp;omega)) HR4.out HL4.out)⟩
         case rest=>
          obtain⟨rfl,q16,rfl,hq16,xe,xk,xc,hG16,hrd16,hsl16,hb16⟩:=hcut
          obtain⟨w22,hw22⟩:∃ z:World,z=wc:=⟨wc,rfl⟩
          subst hw22
          have hl16:=lt_of_block hG16
          have hs22:=hb16.size
          obtain⟨Ak,nk,Bk,mk,e2,e3⟩:=Qp hrd16
          subst e2;subst e3
          obtain⟨Ck,ck,e4⟩:=hsl16.shape
          subst e4
          have HB16:=hid hb16
          clear j0 j1 j2 j3 j4 j5
          have HG16:=hid hG16
          have hg14:=(hb16.block q14 hl14).trans HG14.out
          have hgp:=(hb16.block p (by omega)).trans ((HB14.out.block p hlp).trans HG1.out)
          have hgq:=(hb16.block q (by omega)).trans ((HB14.out.block q hlq).trans HG2.out)
          have j0:=Qa (i:=0) hg14
          have j1:=Qa (i:=1) hg14
          have j2:=Qa (i:=2) hg14
          have i0:=Qa (i:=0) hG16
          have i1:=Qa (i:=1) hG16
          have i2:=Qa (i:=2) hG16
          have k0:=Qa (i:=0) hgp
          have k1:=Qa (i:=1) hgp
          have k2:=Qa (i:=2) hgp
          have y0:=Qa (i:=0) hgq
          have y1:=Qa (i:=1) hgq
          have y2:=Qa (i:=2) hgq
          simp only[List.getElem?_toArray,List.getElem?_cons_zero,List.getElem?_cons_succ]at j0 j1 j2 i0 i1 i2 k0 k1 k2 y0 y1 y2
          have z0:=Qb (i:=0) hgp
          have z1:=Qb (i:=1) hgp
          have z2:=Qb (i:=2) hgp
          have x0:=Qb (i:=0) hgq
          have x1:=Qb (i:=1) hgq
          have x2:=Qb (i:=2) hgq
          have o14:∀ r,wr.heap.size<=r/\r<w21.heap.size->(r≠p/\r≠q/\r<w22.heap.size):=fun r hr=>⟨by omega,by omega,by omega⟩
          have o16:∀ r,w21.heap.size<=r/\r<w22.heap.size->(r≠p/\r≠q/\r<w22.heap.size):=fun r hr=>⟨by omega,by omega,by omega⟩
          have HFI:=hid (QX (w6:=w22) (J:=(JT2,JC2)) (K:=(KT2,KC2)) hpq hgp hgq (Qw (fun r hr=>hb16.block r hr.2) o14 _ _ _ HR14.out) (HS14.out.up (fun r hr=>hb16.block r hr.2) o14 fun _ _ _ h=>h) (Qw (fun _ _=>rfl) o16 _ _ _ hrd16) (hsl16.up (fun _ _=>rfl) o16 fun _ _ _ h=>h))
          have hHeld0:(fun W:World=>W.cell? ⟨q14,0,none⟩=some (.slice Aj JT2.es.length nj)/\W.cell? ⟨q14,1,none⟩=some (.slice Bj JT2.ks.length mj)/\W.cell? ⟨q14,2,none⟩=some (.slice Cj JC2.length cj)/\W.cell? ⟨q16,0,none⟩=some (.slice Ak KT2.es.length nk)/\W.cell? ⟨q16,1,none⟩=some (.slice Bk KT2.ks.length mk)/\W.cell? ⟨q16,2,none⟩=some (.slice Ck KC2.length ck)) w22:=⟨j0,j1,j2,i0,i1,i2⟩
          have HH0:=hid hHeld0
          have hqp:=Ne.symm hpq
          have hlp22:p<w22.heap.size:=by omega
          have hlq22:q<w22.heap.size:=by omega
          have HKP3:=hid (fun (r:Nat) (hr:r≠p)=>((box3 (w:=w22.drew) hgp (.slice Aj JT2.es.length nj) (.slice Bj JT2.ks.length mj) (.slice Cj JC2.length cj)).2.2.2.1 r hr))
          have hdz:w22.drew.heap.size=w22.heap.size:=rfl
          have HDZ:=hid hdz
          clear hG16 hrd16 hsl16 hb16 hg14 hgp hgq o14 o16 hHeld0 hdz
          go_upto_region 25 with (fail)
          refine YQ (S:=fun W=>W.cell? ⟨q14,0,none⟩=some (.slice Aj JT2.es.length nj)/\W.cell? ⟨q14,1,none⟩=some (.slice Bj JT2.ks.length mj)/\W.cell? ⟨q14,2,none⟩=some (.slice Cj JC2.length cj)/\W.cell? ⟨q16,0,none⟩=some (.slice Ak KT2.es.length nk)/\W.cell? ⟨q16,1,none⟩=some (.slice Bk KT2.ks.length mk)/\W.cell? ⟨q16,2,none⟩=some (.slice Ck KC2.length ck)) 3 (by kernel_rfl) (by kernel_rfl) ?_
          simp only[List.take_succ_cons,List.take_zero,List.drop_succ_cons,List.drop_zero]
          have hHeld:(fun W:World=>W.cell? ⟨q14,0,none⟩=some (.slice Aj JT2.es.length nj)/\W.cell? ⟨q14,1,none⟩=some (.slice Bj JT2.ks.length mj)/\W.cell? ⟨q14,2,none⟩=some (.slice Cj JC2.length cj)/\W.cell? ⟨q16,0,none⟩=some (.slice Ak KT2.es.length nk)/\W.cell? ⟨q16,1,none⟩=some (.slice Bk KT2.ks.length mk)/\W.cell? ⟨q16,2,none⟩=some (.slice Ck KC2.length ck)) w22.drew:=HH0.out
          refine wpAnyH_take (i:=0) (oi:=_) (v:=?v0c) rfl (by kernel_rfl) (by kernel_rfl) (by kernel_rfl) (fun _ _ _ h=>h) (Or.inl ⟨by rfl,?h0c⟩) (by assumption) ?_
          case h0c=>(intro w hSw;(try dsimp only at hSw);go_simp;(try with_reducible rfl))
          simp only[Act.put,List.setIfInBounds_toArray,List.set_cons_zero,List.set_cons_succ,List.getElem_toArray,List.getElem_cons_zero,List.getElem_cons_succ]
          refine wpAnyH_take (i:=1) (oi:=_) (v:=?v1d) rfl (by kernel_rfl) (by kernel_rfl) (by kernel_rfl) (fun _ _ _ h=>h) (Or.inl ⟨by rfl,?h1d⟩) (by assumption) ?_
          case h1d=>(intro w hSw;(try dsimp only at hSw);go_simp;(try with_reducible rfl))
          simp only[Act.put,List.setIfInBounds_toArray,List.set_cons_zero,List.set_cons_succ,List.getElem_toArray,List.getElem_cons_zero,List.getElem_cons_succ]
          refine wpAnyH_ready (rs:=[2]) (by kernel_rfl) (by simp) ?_
          refine AllReadyH.cons (o:=_) rfl (fun K hK=>?_) AllReadyH.nil
          go_simp
          refine hK.out _ _ ?_ (fun hHeld2=>?_)
          ·obtain⟨g0,g1,g2,g3,g4,g5⟩:=HH0.out
           have e14:∀ X:World,X.heap[q14]?=w22.heap[q14]?->∀ o,X.cell? ⟨q14,o,none⟩=w22.cell? ⟨q14,o,none⟩:=fun X hX o=>World.cell?_of_block hX
           have e16:∀ X:World,X.heap[q16]?=w22.heap[q16]?->∀ o,X.cell? ⟨q16,o,none⟩=w22.cell? ⟨q16,o,none⟩:=fun X hX o=>World.cell?_of_block hX
           have hkp:=HKP3.out
           exact⟨(e14 _ (hkp q14 (by omega)) 0).trans g0,(e14 _ (hkp q14 (by omega)) 1).trans g1,(e14 _ (hkp q14 (by omega)) 2).trans g2,(e16 _ (hkp q16 (by omega)) 0).trans g3,(e16 _ (hkp q16 (by omega)) 1).trans g4,(e16 _ (hkp q16 (by omega)) 2).trans g5⟩
          clear hK K
          try simp only[Act.put,List.setIfInBounds_toArray,List.set_cons_zero,List.set_cons_succ,List.getElem_toArray,List.getElem_cons_zero,List.getElem_cons_succ]
          refine wpAnyH_done (by kernel_rfl) ?_ _
          change wpList _ _ _ _ _ _
          go_wp2_with fail
          go_roundw
          case rel=>
           with_reducible refine⟨k+1,by omega,by go_num,?_,fun r hr h1 h2=>?_,?_,?_⟩
           ·rw[HJ3.out,HK3.out];exact TwoB.grow HFI.out.1 ((Below.refl _ _).drew)
           ·exact (HFI.out.2.1 r h1 h2).trans ((HB16.out.block r (by omega)).trans ((HB14.out.block r (by omega)).trans (HKP.out r hr h1 h2)))
           ·simp only[World.size_drew];rw[HFI.out.2.2];omega
           ·exact (((((((HBW.out.trans ((HB14.out.trans (HB16.out.mono hs21)).mono HBW.out.size)).setCell (p:=⟨p,0,none⟩) (by simp;omega) _).setCell (p:=⟨p,1,none⟩) (by simp;omega) _).setCell (p:=⟨p,2,none⟩) (by simp;omega) _).setCell (p:=⟨q,0,none⟩) (by simp;omega) _).setCell (p:=⟨q,1,none⟩) (by simp;omega) _).setCell (p:=⟨q,2,none⟩) (by simp;omega) _).drew
          case measure=>simp[intOf];omega
       ·have hki2:¬(k:Int)<(l.length:Int):=by omega
        have hkl:k=l.length:=by omega
        have HJL:Hid ((cntL l).foldl jn (t,knC t)=(JT,JC)):=by have h:=HJ.out;rw[List.take_of_length_le (by omega)]at h;exact h
        have HKL:Hid ((cntL l).reverse.foldl jn (t,knC t)=(KT,KC)):=by have h:=HK.out;rw[List.take_of_length_le (by rw[List.length_reverse];omega)]at h;exact h
        have hJK:(KT,KC)=(JT,JC):=by rw[←HJL.out,←HKL.out,HP1.out]
        cases hJK
        have HVT:Hid (valT JT=Sk):=by have h:=HP2.out;rw[HJL.out,HSE.out,hSl.out]at h;exact h
        have HSM:Hid (kSame JT JT JC JC=true):=by have h:=HP3.out;rw[HJL.out]at h;exact h
        obtain⟨k0,k1,k2⟩:=bx3 HG1.out
        have HFX:Hid (∀ W,Below wr.heap.size wr W->(JT.rd W W.heap.size (.slice A6 JT.es.length n6) (.slice B6 JT.ks.length m6)/\SlP W W.heap.size 3 SpE (.slice C6 JC.length c6) JC/\JT.rd W W.heap.size (.slice A7 JT.es.length n7) (.slice B7 JT.ks.length m7)/\SlP W W.heap.size 3 SpE (.slice C7 JC.length c7) JC/\W.cell? ⟨p,0,none⟩=some (.slice A6 JT.es.length n6)/\W.cell? ⟨p,1,none⟩=some (.slice B6 JT.ks.length m6)/\W.cell? ⟨p,2,none⟩=some (.slice C6 JC.length c6)/\W.cell? ⟨q,0,none⟩=some (.slice A7 JT.es.length n7)/\W.cell? ⟨q,1,none⟩=some (.slice B7 JT.ks.length m7)/\W.cell? ⟨q,2,none⟩=some (.slice C7 JC.length c7))):=fun W hW=>by
         have g:=(hW.block p hlp).trans HG1.out
         have g':=(hW.block q hlq).trans HG2.out
         exact⟨YN H3.out (fun _ h=>h.2.2) hW,H4.out.slp (fun _ h=>h.2.2) hW,YN H5.out (fun _ h=>h.2.2) hW,H6.out.slp (fun _ h=>h.2.2) hW,Qa (i:=0) g,Qa (i:=1) g,Qa (i:=2) g,Qa (i:=0) g',Qa (i:=1) g',Qa (i:=2) g'⟩
        have HBWW:Hid (∀ W,Below wr.heap.size wr W->Below w.heap.size w W):=fun W hW=>by
         have h0:=HX0.out w3 HBc.out
         exact h0.1.trans ((HBW.out.trans (hW.mono HBW.out.size)).mono (by have:=HSC.out;omega))
        go_wp2_with fail
        refine (XE JT _ _ _ (HFX.out _ (Below.refl _ _)).1).mono ?_
        rw[HVT.out]
        rintro e w30 ⟨rfl,hb30⟩
        have HB30:=hid hb30
        clear k0 k1 k2 hb30
        obtain⟨r1,r2,r3,r4,k0,k1,k2,k3,k4,k5⟩:=HFX.out _ HB30.out
        go_wp2_with fail
        refine (csame_any JC JC JT JT _ _ _ _ _ _ _ r1 r3 r2 r4 (by omega) (by omega) (by omega) (by omega)).mono ?_
        rw[HSM.out]
        rintro e w31 ⟨rfl,hb31⟩
        have HB31:=hid (HB30.out.trans (hb31.mono HB30.out.size))
        clear hb31 r1 r2 r3 r4 k0 k1 k2 k3 k4 k5
        go_wp2_with fail
        go_ret
        exact⟨rfl,HBWW.out _ HB31.out⟩
end Go.Proofs.YtidebdbjekijkaaGreat
