/- What the laws need. No condition but those that each lemma states. -/
import Derived.Deep.CutBlock
import Derived.Test.YtbcoelggdikipaaGreatUw7
import Derived.Test.YtbcoelggdikipaaGreatUw2
import Derived.Test.YtbcoelggdikipaaGreatUw5
import Derived.Test.YtbcoelggdikipaaGreatUw11
set_option maxRecDepth 100000
set_option maxHeartbeats 8000000
set_option linter.unusedSimpArgs false
namespace Go.Proofs.YtbcoelggdikipaaGreat
open Go.RowKit
theorem KD (t:Tr):∀ (w:World) (ve vk:Value),t.rd w w.heap.size ve vk->t.sz<=900000 ->
  Calls Tryz.prog 44 #[.agg #[ve,vk]] w (RetTU w t):=by
 induction t using Tr.ind with
 |h es ks ih=>
 intro w ve vk h hN
 rw[QA]at h
 rw[Tr.sz]at hN
 have hkl:=JG ks
 have HE:=hid h.1
 obtain⟨⟨A1,n,rfl,a1,a2,_⟩,⟨A2,m,rfl,c1,c2,c3⟩⟩:=h
 unfold Big at c2 a2
 have hb0:Below w.heap.size w (((w.alloc (.cells #[.slice A1 es.length n,.slice A2 ks.length m] 25)).alloc (.cells #[.slice none 0 0,.slice none 0 0] 25)).alloc (.cells #[.slice none 0 0,.slice none 0 0] 25)):=(((Below.refl _ w).alloc (Nat.le_refl _) _).alloc (by simp) _).alloc (by simp;omega) _
 have HB0:=hid hb0
 have HX:Hid (∀ W,Below (w.heap.size+2) (((w.alloc (.cells #[.slice A1 es.length n,.slice A2 ks.length m] 25)).alloc (.cells #[.slice none 0 0,.slice none 0 0] 25)).alloc (.cells #[.slice none 0 0,.slice none 0 0] 25)) W->Below w.heap.size w W/\W.heap[w.heap.size]?=some (.cells #[.slice A1 es.length n,.slice A2 ks.length m] 25 (0,0))/\W.heap[w.heap.size+1]?=some (.cells #[.slice none 0 0,.slice none 0 0] 25 (0,0))):=fun W hW=>
  ⟨HB0.out.trans (hW.mono (by omega)),(hW.block _ (by omega)).trans ((Qg (by simp;omega)).trans ((Qg (by simp)).trans (Qd rfl))),(hW.block _ (by omega)).trans ((Qg (by simp)).trans (Qd (by simp)))⟩
 go_enter Tryz.func44,Tryz.ntmps44
 go_wp2_with (at_builtin;go_loud ((with_reducible refine Qk (base:=w.heap.size+3) rfl (.tmp 6) (.tmp 8) _ rfl Yy (by decide) (by decide) (fun _ _ h=>h.one) rfl (OwnP.nil (w:=(((w.alloc (.cells #[.slice A1 es.length n,.slice A2 ks.length m] 25)).alloc (.cells #[.slice none 0 0,.slice none 0 0] 25)).alloc (.cells #[.slice none 0 0,.slice none 0 0] 25)))) rfl (HE.out.imp HB0.out HB0.out.size fun _ _ _ h=>h) (by unfold Few;simp;omega) (by simp) ?_);intro v1 w1 hown1 hb1 _;rw[List.nil_append]at hown1;obtain⟨Ae,ce,hv1⟩:=OwnP.shape hown1;subst hv1;have hs1:=hb1.size;simp only[World.size_alloc]at hs1;have g2:w1.heap[w.heap.size+2]?=some (.cells #[.slice none 0 0,.slice none 0 0] 25 (0,0)):=(hb1.block (w.heap.size+2) (by omega)).trans (Qd (by simp));have d0:w1.cell? ⟨w.heap.size+2,0,none⟩=some (.slice none 0 0):=Qa (i:=0) g2;have z0:w1.frozen? ⟨w.heap.size+2,0,none⟩=false:=Qb (i:=0) g2;have q1:w1.cell? ⟨w.heap.size,1,none⟩=some (.slice A2 ks.length m):=Qa (i:=1) (HX.out _ (hb1.mono (by omega))).2.1;have HG2:=hid g2;have HO1:=hid hown1;have HB1:=hid hb1;clear g2 hown1 hb1))
 have hn2:w.heap.size+2≠w.heap.size:=by omega
 have hlt2:w.heap.size+2<w1.heap.size:=by omega
 go_loopw [14] (fun i wr=>∃ k:Nat,k<=ks.length/\i=.int .i64 k/\∃ Ak ck,wr.heap[w.heap.size+2]?=some (.cells #[.slice Ae es.length ce,.slice Ak (ks.take k).length ck] 25 (0,0)) /\
   OwnD wr w1.heap.size 96 3 KdU (fun b=>w1.heap.size<=b) (.slice Ak (ks.take k).length ck) (ks.take k)/\w1.heap.size<=wr.heap.size/\Below (w.heap.size+2) (((w.alloc (.cells #[.slice A1 es.length n,.slice A2 ks.length m] 25)).alloc (.cells #[.slice none 0 0,.slice none 0 0] 25)).alloc (.cells #[.slice none 0 0,.slice none 0 0] 25)) wr/\(∀ b,w.heap.size+2<b->b<w1.heap.size->wr.heap[b]?=w1.heap[b]?)) (fun i _=>ks.length-(intOf i).toNat)
 case atStart=>
  exact⟨0,Nat.zero_le _,rfl,none,0,by simpa using Qe (i:=0) HG2.out (.slice Ae es.length ce),OwnP.nil,by simp[World.setCell],(HB1.out.mono (by omega)).setCell (by simp) _,fun b hb _=>Below.heap_setCell _ _ _ _ (by simp;omega)⟩
 case round=>
  obtain⟨k,hk,rfl,Ak,ck,hg,hown,hsz,hb,hkp⟩:=hrel
  obtain⟨hB0,hgt,hgr⟩:=HX.out wr hb
  have hszk:=hown.lt
  clear q1 d0 z0
  by_cases hlt:k<ks.length
  ·obtain⟨⟨key,t⟩,hx⟩:∃ x,ks[k]?=some x:=⟨_,List.getElem?_eq_getElem hlt⟩
   obtain⟨b,off,rfl,hbB,hc⟩:=c3 (by rintro rfl;simp at hlt)
   obtain⟨cs,⟨ve',vk',rfl,hkb,hrd⟩,_,hu⟩:=hc k _ hx
   obtain⟨A3,n3,A4,n4,rfl,rfl⟩:=Qj hrd
   have hmem:(key,t)∈ks:=List.mem_of_getElem? hx
   have HKB:=hid hkb
   have htz:t.sz<=900000:=by have:=qZc hmem;omega
   have HX1:Hid (ks.take (k+1)=ks.take k++[(key,t)]):=by unfold Hid;rw[List.take_add_one,hx];rfl
   have hl1:(ks.take k).length=k:=by simp;omega
   have HL:Hid ((ks.take k).length + [(key,t)].length<=Few):=by unfold Hid Few;rw[hl1];simp;omega
   generalize ks.take k=js at *
   have HIH:=hid (ih key t hmem)
   have HC:Hid (∀ W,Below w1.heap.size wr W->(W.cell? ⟨w.heap.size+2,1,none⟩=some (.slice Ak js.length ck)/\W.cell? ⟨w.heap.size,1,none⟩=some (.slice (some ⟨b,off,none⟩) ks.length m)/\W.cell? ⟨b,off+k*3,none⟩=some (.string key)/\W.cell? ⟨b,off+k*3+1,none⟩=some (.slice A3 t.es.length n3)/\W.cell? ⟨b,off+k*3+2,none⟩=some (.slice A4 t.ks.length n4))):=fun W hW=>by
    have hbo:∀ o,W.cell? ⟨b,o,none⟩=w.cell? ⟨b,o,none⟩:=fun o=>(hW.cell (p:=⟨b,o,none⟩) (by show b<_;omega)).trans (hB0.cell (p:=⟨b,o,none⟩) hbB)
    exact⟨Qa (i:=1) ((hW.block _ hlt2).trans hg),Qa (i:=1) ((hW.block _ (by omega)).trans hgt),(hbo _).trans (hu 0 _ rfl),(hbo _).trans (hu 1 _ rfl),(hbo _).trans (hu 2 _ rfl)⟩
   have HOWN:Hid (∀ W,Below wr.heap.size wr W->OwnD W w1.heap.size 96 3 KdU (fun b=>w1.heap.size<=b) (.slice Ak js.length ck) js):=fun W hW=>hown.grow KdU.mon hW
   have HGW:Hid (∀ W,Below w1.heap.size wr W->W.heap[w.heap.size+2]?=some (.cells #[.slice Ae es.length ce,.slice Ak js.length ck] 25 (0,0))):=fun W hW=>(hW.block _ hlt2).trans hg
   have HRW:Hid (t.rd wr.drew wr.drew.heap.size (.slice A3 t.es.length n3) (.slice A4 t.ks.length n4)):=Qi hB0.drew hB0.drew.size _ _ _ hrd
   have hki:(k:Int)<(ks.length:Int):=by omega
   clear hu hx hc c3 hrd hkb hmem ih hg hown hl1
   go_upto_region 6 with (fail)
   refine Yw (S:=fun W=>(W.cell? ⟨w.heap.size+2,1,none⟩=some (.slice Ak js.length ck)/\W.cell? ⟨w.heap.size,1,none⟩=some (.slice (some ⟨b,off,none⟩) ks.length m)/\W.cell? ⟨b,off+k*3,none⟩=some (.string key)/\W.cell? ⟨b,off+k*3+1,none⟩=some (.slice A3 t.es.length n3)/\W.cell? ⟨b,off+k*3+2,none⟩=some (.slice A4 t.ks.length n4))) 19 (by kernel_rfl) (by kernel_rfl) ?_
   simp only[List.take_succ_cons,List.take_zero,List.drop_succ_cons,List.drop_zero]
   have hHeld:=HC.out wr.drew ((Below.refl _ wr).drew)
   refine wpAnyH_take (i:=0) (oi:=_) (v:=?v0) rfl (by kernel_rfl) (by kernel_rfl) (by kernel_rfl) (fun _ _ _ h=>h) (Or.inl ⟨by rfl,?h0⟩) (by assumption) ?_
   case h0=>(intro w hSw;(try dsimp only at hSw);go_simp;(try with_reducible rfl))
   simp only[Act.put,List.setIfInBounds_toArray,List.set_cons_zero,List.set_cons_succ,List.getElem_toArray,List.getElem_cons_zero,List.getElem_cons_succ]
   refine wpAnyH_take (i:=1) (oi:=_) (v:=?v1) rfl (by kernel_rfl) (by kernel_rfl) (by kernel_rfl) (fun _ _ _ h=>h) (Or.inl ⟨by rfl,?h1⟩) (by assumption) ?_
   case h1=>(intro w hSw;(try dsimp only at hSw);go_simp;(try with_reducible rfl))
   simp only[Act.put,List.setIfInBounds_toArray,List.set_cons_zero,List.set_cons_succ,List.getElem_toArray,List.getElem_cons_zero,List.getElem_cons_succ]
   refine wpAnyH_take (i:=2) (oi:=_) (v:=?v2) rfl (by kernel_rfl) (by kernel_rfl) (by kernel_rfl) (fun _ _ _ h=>h) (Or.inl ⟨by rfl,?h2⟩) (by assumption) ?_
   case h2=>(intro w hSw;(try dsimp only at hSw);go_simp;(try with_reducible rfl))
   simp only[Act.put,List.setIfInBounds_toArray,List.set_cons_zero,List.set_cons_succ,List.getElem_toArray,List.getElem_cons_zero,List.getElem_cons_succ]
   refine wpAnyH_take (i:=3) (oi:=_) (v:=?v3) rfl (by kernel_rfl) (by kernel_rfl) (by kernel_rfl) (fun _ _ _ h=>h) (Or.inl ⟨by rfl,?h3⟩) (by assumption) ?_
   case h3=>(intro w hSw;(try dsimp only at hSw);go_simp;(try with_reducible rfl))
   simp only[Act.put,List.setIfInBounds_toArray,List.set_cons_zero,List.set_cons_succ,List.getElem_toArray,List.getElem_cons_zero,List.getElem_cons_succ]
   refine wpAnyH_take (i:=4) (oi:=_) (v:=?v4) rfl (by kernel_rfl) (by kernel_rfl) (by kernel_rfl) (fun _ _ _ h=>h) (Or.inl ⟨by rfl,?h4⟩) (by assumption) ?_
   case h4=>(intro w hSw;(try dsimp only at hSw);go_simp;(try with_reducible rfl))
   simp only[Act.put,List.setIfInBounds_toArray,List.set_cons_zero,List.set_cons_succ,List.getElem_toArray,List.getElem_cons_zero,List.getElem_cons_succ]
   refine wpAnyH_take (i:=5) (oi:=_) (v:=?v5) rfl (by kernel_rfl) (by kernel_rfl) (by kernel_rfl) (fun _ _ _ h=>h) (Or.inl ⟨by rfl,?h5⟩) (by assumption) ?_
   case h5=>(intro w hSw;(try dsimp only at hSw);go_simp;(try with_reducible rfl))
   simp only[Act.put,List.setIfInBounds_toArray,List.set_cons_zero,List.set_cons_succ,List.getElem_toArray,List.getElem_cons_zero,List.getElem_cons_succ]
   refine wpAnyH_take (i:=6) (oi:=_) (v:=?v6) rfl (by kernel_rfl) (by kernel_rfl) (by kernel_rfl) (fun _ _ _ h=>h) (Or.inl ⟨by rfl,?h6⟩) (by assumption) ?_
   case h6=>(intro w hSw;(try dsimp only at hSw);go_simp;(try with_reducible rfl))
   simp only[Act.put,List.setIfInBounds_toArray,List.set_cons_zero,List.set_cons_succ,List.getElem_toArray,List.getElem_cons_zero,List.getElem_cons_succ]
   refine wpAnyH_take (i:=7) (oi:=_) (v:=?v7) rfl (by kernel_rfl) (by kernel_rfl) (by kernel_rfl) (fun _ _ _ h=>h) (Or.inl ⟨by rfl,?h7⟩) (by assumption) ?_
   case h7=>(intro w hSw;(try dsimp only at hSw);go_simp;(try with_reducible rfl))
   simp only[Act.put,List.setIfInBounds_toArray,List.set_cons_zero,List.set_cons_succ,List.getElem_toArray,List.getElem_cons_zero,List.getElem_cons_succ]
   refine wpAnyH_take (i:=8) (oi:=_) (v:=?v8) rfl (by kernel_rfl) (by kernel_rfl) (by kernel_rfl) (fun _ _ _ h=>h) (Or.inl ⟨by rfl,?h8⟩) (by assumption) ?_
   case h8=>(intro w hSw;(try dsimp only at hSw);go_simp;(try with_reducible rfl))
   simp only[Act.put,List.setIfInBounds_toArray,List.set_cons_zero,List.set_cons_succ,List.getElem_toArray,List.getElem_cons_zero,List.getElem_cons_succ]
   refine wpAnyH_take (i:=9) (oi:=_) (v:=?v9) rfl (by kernel_rfl) (by kernel_rfl) (by kernel_rfl) (fun _ _ _ h=>h) (Or.inl ⟨by rfl,?h9⟩) (by assumption) ?_
   case h9=>(intro w hSw;(try dsimp only at hSw);go_simp;(try with_reducible rfl))
   simp only[Act.put,List.setIfInBounds_toArray,List.set_cons_zero,List.set_cons_succ,List.getElem_toArray,List.getElem_cons_zero,List.getElem_cons_succ]
   refine wpAnyH_take (i:=10) (oi:=_) (v:=?v10) rfl (by kernel_rfl) (by kernel_rfl) (by kernel_rfl) (fun _ _ _ h=>h) (Or.inl ⟨by rfl,?h10⟩) (by assumption) ?_
   case h10=>(intro w hSw;(try dsimp only at hSw);go_simp;(try with_reducible rfl))
   simp only[Act.put,List.setIfInBounds_toArray,List.set_cons_zero,List.set_cons_succ,List.getElem_toArray,List.getElem_cons_zero,List.getElem_cons_succ]
   refine wpAnyH_take (i:=11) (oi:=_) (v:=?v11) rfl (by kernel_rfl) (by kernel_rfl) (by kernel_rfl) (fun _ _ _ h=>h) (Or.inl ⟨by rfl,?h11⟩) (by assumption) ?_
   case h11=>(intro w hSw;(try dsimp only at hSw);go_simp;(try with_reducible rfl))
   simp only[Act.put,List.setIfInBounds_toArray,List.set_cons_zero,List.set_cons_succ,List.getElem_toArray,List.getElem_cons_zero,List.getElem_cons_succ]
   refine wpAnyH_take (i:=12) (oi:=_) (v:=?v12) rfl (by kernel_rfl) (by kernel_rfl) (by kernel_rfl) (fun _ _ _ h=>h) (Or.inl ⟨by rfl,?h12⟩) (by assumption) ?_
   case h12=>(intro w hSw;(try dsimp only at hSw);go_simp;(try with_reducible rfl))
   simp only[Act.put,List.setIfInBounds_toArray,List.set_cons_zero,List.set_cons_succ,List.getElem_toArray,List.getElem_cons_zero,List.getElem_cons_succ]
   refine wpAnyH_take (i:=13) (oi:=_) (v:=?v13) rfl (by kernel_rfl) (by kernel_rfl) (by kernel_rfl) (fun _ _ _ h=>h) (Or.inl ⟨by rfl,?h13⟩) (by assumption) ?_
   case h13=>(intro w hSw;(try dsimp only at hSw);go_simp;(try with_reducible rfl))
   simp only[Act.put,List.setIfInBounds_toArray,List.set_cons_zero,List.set_cons_succ,List.getElem_toArray,List.getElem_cons_zero,List.getElem_cons_succ]
   refine wpAnyH_ready (rs:=[14]) (by kernel_rfl) (by simp) ?_
   refine AllReadyH.cons (o:=_) rfl (fun K hK=>?_) AllReadyH.nil
   (go_simp;refine (HIH.out _ _ _ HRW.out htz).mono ?_;rintro e w3 ⟨ve3,vk3,rfl,hrd,hb3⟩;obtain⟨Av,nv,Aw,nw,e1,e2⟩:=QY hrd;subst e1;subst e2;have HB3:Hid (Below wr.heap.size wr w3):=hid ((Below.refl wr.heap.size wr).drew.trans (hb3.mono (by simp)));have hs3:=HB3.out.size;have HR3:=hid hrd;clear hrd hb3)
   refine hK.out _ _ ?_ (fun hHeld14=>?_)
   ·exact HC.out _ (HB3.out.mono hsz)
   clear hK K
   try simp only[Act.put,List.setIfInBounds_toArray,List.set_cons_zero,List.set_cons_succ,List.getElem_toArray,List.getElem_cons_zero,List.getElem_cons_succ]
   refine wpAnyH_take (i:=15) (oi:=_) (v:=?v15) rfl (by kernel_rfl) (by kernel_rfl) (by kernel_rfl) (fun _ _ _ h=>h) (Or.inl ⟨by rfl,?h15⟩) (by assumption) ?_
   case h15=>(intro w hSw;(try dsimp only at hSw);go_simp;(try with_reducible rfl))
   simp only[Act.put,List.setIfInBounds_toArray,List.set_cons_zero,List.set_cons_succ,List.getElem_toArray,List.getElem_cons_zero,List.getElem_cons_succ]
   refine wpAnyH_ready (rs:=[16]) (by kernel_rfl) (by simp) ?_
   refine AllReadyH.cons (o:=_) rfl (fun K hK=>?_) AllReadyH.nil
   go_simp
   refine hK.out _ _ ?_ (fun hHeld16=>?_)
   ·exact HC.out _ ((HB3.out.mono hsz).alloc (by omega) _)
   clear hK K
   try simp only[Act.put,List.setIfInBounds_toArray,List.set_cons_zero,List.set_cons_succ,List.getElem_toArray,List.getElem_cons_zero,List.getElem_cons_succ]
   refine wpAnyH_ready (rs:=[17]) (by kernel_rfl) (by simp) ?_
   refine AllReadyH.cons (o:=_) rfl (fun K hK=>?_) AllReadyH.nil
   (refine YA (v:=.slice Ak js.length ck) rfl (.tmp 18) (.tmp 33) _ rfl KdU.mon eiKid (by decide) (by decide) rfl (HOWN.out _ (HB3.out.alloc hs3 _)) rfl (qX8 HR3.out HKB.out (fun b hb=>⟨hb.2,by have:=hb.1;simp only[World.size_drew]at *;omega,by rw[World.size_alloc];have:=hb.2;omega,fun e=>by have:=hszk b e;have:=hb.1;simp only[World.size_drew]at *;omega⟩) _ (by rw[World.size_alloc];omega)) HL.out (by rw[World.size_alloc];omega) ?_;intro v1 w4 hown4 hb4 _ _;obtain⟨A7,c7,hv7⟩:=OwnP.shape hown4;subst hv7;have HB4:=hid (((HB3.out.mono hsz).alloc (by omega) (.cells #[.string key,.slice Av t.es.length nv,.slice Aw t.ks.length nw] 96)).trans hb4);have HO4:=hid hown4;have hz4:=hb4.size;rw[World.size_alloc]at hz4;clear hown4 hb4)
   refine hK.out _ _ ?_ (fun hHeld17=>?_)
   ·exact HC.out _ HB4.out
   clear hK K
   try simp only[Act.put,List.setIfInBounds_toArray,List.set_cons_zero,List.set_cons_succ,List.getElem_toArray,List.getElem_cons_zero,List.getElem_cons_succ]
   refine wpAnyH_take (i:=18) (oi:=_) (v:=?v18) rfl (by kernel_rfl) (by kernel_rfl) (by kernel_rfl) (fun _ _ _ h=>h) (Or.inl ⟨by rfl,?h18⟩) (by assumption) ?_
   case h18=>(intro w hSw;(try dsimp only at hSw);go_simp;(try with_reducible rfl))
   simp only[Act.put,List.setIfInBounds_toArray,List.set_cons_zero,List.set_cons_succ,List.getElem_toArray,List.getElem_cons_zero,List.getElem_cons_succ]
   refine wpAnyH_done (by kernel_rfl) ?_ _
   change wpList _ _ _ _ _ _
   have HG4:=hid (HGW.out _ HB4.out)
   have d1:w4.cell? ⟨w.heap.size+2,1,none⟩=some (.slice Ak js.length ck):=Qa (i:=1) HG4.out
   have z1:=Qb (i:=1) HG4.out
   go_wp2_with fail
   go_roundw
   case rel=>
    refine⟨k+1,by omega,by go_num,A7,c7,?_,?_,?_,?_,?_⟩
    ·rw[HX1.out];simpa using Qe (i:=1) HG4.out (.slice A7 (js.length+1) c7)
    ·rw[HX1.out];exact OwnD.setOther HO4.out KdU.mon hlt2 (by simp;omega) _
    ·simp[World.setCell];omega
    ·exact (hb.trans (HB4.out.mono (by omega))).setCell (by simp) _
    ·intro b h1 h2
     exact (Below.heap_setCell _ _ _ _ (by simp;omega)).trans ((HB4.out.block b h2).trans (hkp b h1 h2))
   case measure=>simp[intOf];omega
  ·obtain rfl:k=ks.length:=by omega
   rw[List.take_of_length_le (Nat.le_refl _)]at hg hown hszk
   have c0:wr.cell? ⟨w.heap.size+2,0,none⟩=some (.slice Ae es.length ce):=Qa (i:=0) hg
   have c1:wr.cell? ⟨w.heap.size+2,1,none⟩=some (.slice Ak ks.length ck):=Qa (i:=1) hg
   have d0:wr.cell? ⟨w.heap.size+1,0,none⟩=some (.slice none 0 0):=Qa (i:=0) hgr
   have d1:wr.cell? ⟨w.heap.size+1,1,none⟩=some (.slice none 0 0):=Qa (i:=1) hgr
   have z0:=Qb (i:=0) hgr
   have z1:=Qb (i:=1) hgr
   clear ih c3
   go_wp2_with fail
   have hW0:=Qe (i:=1) (Qe (i:=0) hgr (.slice Ae es.length ce)) (.slice Ak ks.length ck)
   have hKW:∀ b,w.heap.size+2<=b->((wr.setCell ⟨w.heap.size+1,0,none⟩ (.slice Ae es.length ce)).setCell ⟨w.heap.size+1,1,none⟩ (.slice Ak ks.length ck)).heap[b]?=wr.heap[b]?:=fun b hb=>(Below.heap_setCell _ _ _ _ (by simp;omega)).trans (Below.heap_setCell _ _ _ _ (by simp;omega))
   have hSW:((wr.setCell ⟨w.heap.size+1,0,none⟩ (.slice Ae es.length ce)).setCell ⟨w.heap.size+1,1,none⟩ (.slice Ak ks.length ck)).heap.size=wr.heap.size:=by simp[World.setCell]
   have hBW:Below w.heap.size w ((wr.setCell ⟨w.heap.size+1,0,none⟩ (.slice Ae es.length ce)).setCell ⟨w.heap.size+1,1,none⟩ (.slice Ak ks.length ck)):=(hB0.setCell (by simp) _).setCell (by simp) _
   clear c0 c1 d0 d1 z0 z1
   generalize ((wr.setCell ⟨w.heap.size+1,0,none⟩ (.slice Ae es.length ce)).setCell ⟨w.heap.size+1,1,none⟩ (.slice Ak ks.length ck))=W at *
   have r0:W.cell? ⟨w.heap.size+1,0,none⟩=some (.slice Ae es.length ce):=(Qa (i:=0) hW0).trans (by simp)
   have r1:W.cell? ⟨w.heap.size+1,1,none⟩=some (.slice Ak ks.length ck):=(Qa (i:=1) hW0).trans (by simp)
   refine bodyPost_ret (v:=.agg #[.slice Ae es.length ce,.slice Ak ks.length ck]) (by simp[results,Tryz.results44,go_sem,r0,r1]) rfl ⟨_,_,rfl,?_,hBW⟩
   rw[qVi]
   refine⟨(HO1.out.slu (by unfold Big;omega)).up (fun b hb'=>(hKW b (by have:=hb'.1;omega)).trans (hkp b (by have:=hb'.1;omega) hb'.2.1)) (fun b hb'=>⟨by have:=hb'.1;omega,by have:=hb'.2.1;omega⟩) (fun _ _ _ h=>h),(OwnP.slu hown (by unfold Big;omega)).up (fun b hb'=>hKW b (by have:=hb'.1;omega)) (fun b hb'=>⟨by have:=hb'.1;omega,by have:=hb'.2.1;omega⟩) ?_⟩
   intro x _ cs hx
   exact KdU.mon.up (fun b hb'=>hKW b (by have:=hb'.1;omega)) (fun b hb'=>⟨by have:=hb'.1;omega,by have:=hb'.2.1;omega⟩) hx
theorem qXg (t:Tr)(c:List Sp)(ve vk vc:Value)(w:World)(h:t.rd w w.heap.size ve vk)(hc:SlP w w.heap.size 3 SpE vc c)(hN:t.sz<=4000)(hN':c.length<=20000) :
  Calls Tryz.prog 14 #[.agg #[ve,vk,vc]] w (RetCU w t c):=by
 have HC:Hid (∀ w',Below w.heap.size w w'->(t.rd w' w'.heap.size ve vk/\SlP w' w'.heap.size 3 SpE vc c)):=fun w' hb=>⟨Qi hb hb.size _ _ _ h,hc.imp hb hb.size fun _ _ _ h=>h⟩
 obtain⟨A3,n3,A4,n4,rfl,rfl⟩:=Qj h
 obtain⟨A5,n5,rfl,_⟩:=hc
 have hb0:Below w.heap.size w ((w.alloc (.cells #[.slice A3 t.es.length n3,.slice A4 t.ks.length n4,.slice A5 c.length n5] 29)).alloc (.cells #[.slice none 0 0,.slice none 0 0,.slice none 0 0] 29)):=((Below.refl _ w).alloc (Nat.le_refl _) _).alloc (by simp) _
 have HB0:=hid hb0
 have HX:Hid (∀ W,Below (w.heap.size+2) ((w.alloc (.cells #[.slice A3 t.es.length n3,.slice A4 t.ks.length n4,.slice A5 c.length n5] 29)).alloc (.cells #[.slice none 0 0,.slice none 0 0,.slice none 0 0] 29)) W->(Below w.heap.size w W/\w.heap.size+2<=W.heap.size/\((W).cell? ⟨w.heap.size,0,none⟩=some (.slice A3 t.es.length n3)/\(W).cell? ⟨w.heap.size,1,none⟩=some (.slice A4 t.ks.length n4)/\(W).cell? ⟨w.heap.size,2,none⟩=some (.slice A5 c.length n5))/\W.heap[w.heap.size+1]?=some (.cells #[.slice none 0 0,.slice none 0 0,.slice none 0 0] 29 (0,0)))):=fun W hW=>by
  have g0:W.heap[w.heap.size]?=some (.cells #[.slice A3 t.es.length n3,.slice A4 t.ks.length n4,.slice A5 c.length n5] 29 (0,0)):=(hW.block _ (by omega)).trans ((Qg (by simp)).trans (Qd rfl))
  exact⟨HB0.out.trans (hW.mono (by omega)),by have:=hW.size;simpa using this,⟨Qa (i:=0) g0,Qa (i:=1) g0,Qa (i:=2) g0⟩,(hW.block _ (by omega)).trans (Qd (by simp))⟩
 clear h hb0
 have hneA:w.heap.size+1≠w.heap.size:=by omega
 go_enter Tryz.func14,Tryz.ntmps14
 go_upto_region 1 with (fail)
 refine Yw (S:=fun W=>((W).cell? ⟨w.heap.size,0,none⟩=some (.slice A3 t.es.length n3)/\(W).cell? ⟨w.heap.size,1,none⟩=some (.slice A4 t.ks.length n4)/\(W).cell? ⟨w.heap.size,2,none⟩=some (.slice A5 c.length n5))) 8 (by kernel_rfl) (by kernel_rfl) ?_
 simp only[List.take_succ_cons,List.take_zero,List.drop_succ_cons,List.drop_zero]
 have hHeld:=(HX.out _ ((Below.refl (w.heap.size+2) ((w.alloc (.cells #[.slice A3 t.es.length n3,.slice A4 t.ks.length n4,.slice A5 c.length n5] 29)).alloc (.cells #[.slice none 0 0,.slice none 0 0,.slice none 0 0] 29))).drew)).2.2.1
 refine wpAnyH_take (i:=0) (oi:=_) (v:=?v0) rfl (by kernel_rfl) (by kernel_rfl) (by kernel_rfl) (fun _ _ _ h=>h) (Or.inl ⟨by rfl,?h0⟩) (by assumption) ?_
 case h0=>(intro w hSw;(try dsimp only at hSw);go_simp;(try with_reducible rfl))
 simp only[Act.put,List.setIfInBounds_toArray,List.set_cons_zero,List.set_cons_succ,List.getElem_toArray,List.getElem_cons_zero,List.getElem_cons_succ]
 refine wpAnyH_take (i:=1) (oi:=_) (v:=?v1) rfl (by kernel_rfl) (by kernel_rfl) (by kernel_rfl) (fun _ _ _ h=>h) (Or.inl ⟨by rfl,?h1⟩) (by assumption) ?_
 case h1=>(intro w hSw;(try dsimp only at hSw);go_simp;(try with_reducible rfl))
 simp only[Act.put,List.setIfInBounds_toArray,List.set_cons_zero,List.set_cons_succ,List.getElem_toArray,List.getElem_cons_zero,List.getElem_cons_succ]
 refine wpAnyH_take (i:=4) (oi:=_) (v:=?v4) rfl (by kernel_rfl) (by kernel_rfl) (by kernel_rfl) (fun _ _ _ h=>h) (Or.inl ⟨by rfl,?h4⟩) (by assumption) ?_
 case h4=>(intro w hSw;(try dsimp only at hSw);go_simp;(try with_reducible rfl))
 simp only[Act.put,List.setIfInBounds_toArray,List.set_cons_zero,List.set_cons_succ,List.getElem_toArray,List.getElem_cons_zero,List.getElem_cons_succ]
 refine wpAnyH_take (i:=5) (oi:=_) (v:=?v5) rfl (by kernel_rfl) (by kernel_rfl) (by kernel_rfl) (fun _ _ _ h=>h) (Or.inl ⟨by rfl,?h5⟩) (by assumption) ?_
 case h5=>(intro w hSw;(try dsimp only at hSw);go_simp;(try with_reducible rfl))
 simp only[Act.put,List.setIfInBounds_toArray,List.set_cons_zero,List.set_cons_succ,List.getElem_toArray,List.getElem_cons_zero,List.getElem_cons_succ]
 refine wpAnyH_ready (rs:=[2,3]) (by kernel_rfl) (by simp) ?_
 refine AllReadyH.cons (o:=_) rfl (fun K hK=>?_) (AllReadyH.cons (o:=_) rfl (fun K hK=>?_) AllReadyH.nil)
 ·(go_simp;refine (KD t _ _ _ (HC.out _ (HX.out _ ((Below.refl (w.heap.size+2) ((w.alloc (.cells #[.slice A3 t.es.length n3,.slice A4 t.ks.length n4,.slice A5 c.length n5] 29)).alloc (.cells #[.slice none 0 0,.slice none 0 0,.slice none 0 0] 29))).drew)).1).1 (by omega)).mono ?_;rintro e w3 ⟨ve3,vk3,rfl,hrd3,hb3⟩;obtain⟨Av,nv,Aw,nw,e1,e2⟩:=QY hrd3;subst e1;subst e2;have HR3:=hid hrd3;have HB3:Hid (Below (w.heap.size+2) ((w.alloc (.cells #[.slice A3 t.es.length n3,.slice A4 t.ks.length n4,.slice A5 c.length n5] 29)).alloc (.cells #[.slice none 0 0,.slice none 0 0,.slice none 0 0] 29)) w3):=hid ((Below.refl (w.heap.size+2) ((w.alloc (.cells #[.slice A3 t.es.length n3,.slice A4 t.ks.length n4,.slice A5 c.length n5] 29)).alloc (.cells #[.slice none 0 0,.slice none 0 0,.slice none 0 0] 29))).drew.trans (hb3.mono (by simp)));clear hrd3)
  refine hK.out _ _ ?_ (fun hHeld2=>?_)
  ·exact (HX.out _ HB3.out).2.2.1
  clear hK K
  try simp only[Act.put,List.setIfInBounds_toArray,List.set_cons_zero,List.set_cons_succ,List.getElem_toArray,List.getElem_cons_zero,List.getElem_cons_succ]
  have hs3:=(HX.out _ HB3.out).2.1
  have HB4:=hid (HB3.out.alloc hs3 (.cells #[] 45))
  refine wpAnyH_ready (rs:=[3]) (by kernel_rfl) (by simp) ?_
  refine AllReadyH.cons (o:=_) rfl (fun K hK=>?_) AllReadyH.nil
  go_simp
  refine hK.out _ _ ?_ (fun hHeld3=>?_)
  ·exact (HX.out _ HB4.out).2.2.1
  clear hK K
  try simp only[Act.put,List.setIfInBounds_toArray,List.set_cons_zero,List.set_cons_succ,List.getElem_toArray,List.getElem_cons_zero,List.getElem_cons_succ]
  refine wpAnyH_ready (rs:=[6]) (by kernel_rfl) (by simp) ?_
  refine AllReadyH.cons (o:=_) rfl (fun K hK=>?_) AllReadyH.nil
  (refine ZW (v:=.slice (some ⟨w3.heap.size,0,none⟩) 0 0) (base:=w.heap.size+2) rfl (.tmp 6) (.tmp 8) _ rfl JF (by decide) (by decide) (fun _ _ h=>h.one) rfl (OwnP.zero (Qd rfl) hs3) rfl (HC.out _ (HX.out _ HB4.out).1).2 (by unfold Few;simp;omega) (by simp;omega) ?_;intro v5 w5 hown5 hb5 hgr5;rw[List.nil_append]at hown5;obtain⟨A7,c7,hv7⟩:=OwnP.shape hown5;subst hv7;have HB5:=hid (HB4.out.trans hb5);have HO5:=hid hown5;have HR5:Hid (t.rdu w5 (fun b=>w.heap.size+2<=b/\b<w5.heap.size) (.slice Av t.es.length nv) (.slice Aw t.ks.length nw)):=hid (YH (fun b hb=>(hgr5.block b (by simp;have:=hb.2;omega) (fun e=>Nat.lt_irrefl w3.heap.size (by have h2:=hb.2;rwa [show b=w3.heap.size from by simpa[Value.ownBlock] using e]at h2))).trans (Qg hb.2)) (fun b hb=>⟨by have:=hb.1;simp only[World.size_drew,World.size_alloc]at this;omega,by have:=hb.2;have:=hb5.size;rw[World.size_alloc]at this;omega⟩) _ _ _ HR3.out);clear hown5 hb5 hgr5)
  refine hK.out _ _ ?_ (fun hHeld6=>?_)
  ·exact (HX.out _ HB5.out).2.2.1
  clear hK K
  try simp only[Act.put,List.setIfInBounds_toArray,List.set_cons_zero,List.set_cons_succ,List.getElem_toArray,List.getElem_cons_zero,List.getElem_cons_succ]
  refine wpAnyH_take (i:=7) (oi:=_) (v:=?v7) rfl (by kernel_rfl) (by kernel_rfl) (by kernel_rfl) (fun _ _ _ h=>h) (Or.inl ⟨by rfl,?h7⟩) (by assumption) ?_
  case h7=>(intro w hSw;(try dsimp only at hSw);go_simp;(try with_reducible rfl))
  simp only[Act.put,List.setIfInBounds_toArray,List.set_cons_zero,List.set_cons_succ,List.getElem_toArray,List.getElem_cons_zero,List.getElem_cons_succ]
  refine wpAnyH_done (by kernel_rfl) ?_ _
  change wpList _ _ _ _ _ _
  obtain⟨hB5,hs5,_,hG5⟩:=HX.out _ HB5.out
  have HG5:=hid hG5
  obtain⟨k0,k1,k2,z0,z1,z2⟩:=bz3 hG5
  clear hG5
  go_wp2_with fail
  obtain⟨r0,r1,r2,hK,hS⟩:=box3 HG5.out (.slice Av t.es.length nv) (.slice Aw t.ks.length nw) (.slice A7 c.length c7)
  have hBW:Below w.heap.size w (((w5.setCell ⟨w.heap.size+1,0,none⟩ (.slice Av t.es.length nv)).setCell ⟨w.heap.size+1,1,none⟩ (.slice Aw t.ks.length nw)).setCell ⟨w.heap.size+1,2,none⟩ (.slice A7 c.length c7)):=((hB5.setCell (by simp) _).setCell (by simp) _).setCell (by simp) _
  clear k0 k1 k2 z0 z1 z2
  generalize (((w5.setCell ⟨w.heap.size+1,0,none⟩ (.slice Av t.es.length nv)).setCell ⟨w.heap.size+1,1,none⟩ (.slice Aw t.ks.length nw)).setCell ⟨w.heap.size+1,2,none⟩ (.slice A7 c.length c7))=W at *
  refine bodyPost_ret (v:=.agg #[.slice Av t.es.length nv,.slice Aw t.ks.length nw,.slice A7 c.length c7]) (by simp[results,Tryz.results14,go_sem,r0,r1,r2]) rfl ⟨_,_,_,rfl,?_,?_,hBW⟩
  ·exact YH (fun b hb=>hK b (by have:=hb.1;omega)) (fun b hb=>⟨by have:=hb.1;omega,by have:=hb.2;omega⟩) _ _ _ HR5.out
  ·exact (HO5.out.slu (by unfold Big;omega)).up (fun b hb=>hK b (by have:=hb.1;omega)) (fun b hb=>⟨by have:=hb.1;omega,by have:=hb.2.1;omega⟩) (fun _ _ _ h=>h)
 ·go_simp
  refine hK.out _ _ ?_ (fun hHeld3=>?_)
  ·exact (HX.out _ ((Below.refl (w.heap.size+2) ((w.alloc (.cells #[.slice A3 t.es.length n3,.slice A4 t.ks.length n4,.slice A5 c.length n5] 29)).alloc (.cells #[.slice none 0 0,.slice none 0 0,.slice none 0 0] 29))).drew.alloc (by simp) (.cells #[] 45))).2.2.1
  clear hK K
  try simp only[Act.put,List.setIfInBounds_toArray,List.set_cons_zero,List.set_cons_succ,List.getElem_toArray,List.getElem_cons_zero,List.getElem_cons_succ]
  refine wpAnyH_ready (rs:=[2]) (by kernel_rfl) (by simp) ?_
  refine AllReadyH.cons (o:=_) rfl (fun K hK=>?_) AllReadyH.nil
  (go_simp;refine (KD t _ _ _ (HC.out _ (HX.out _ ((Below.refl (w.heap.size+2) ((w.alloc (.cells #[.slice A3 t.es.length n3,.slice A4 t.ks.length n4,.slice A5 c.length n5] 29)).alloc (.cells #[.slice none 0 0,.slice none 0 0,.slice none 0 0] 29))).drew.alloc (by simp) (.cells #[] 45))).1).1 (by omega)).mono ?_;rintro e w3 ⟨ve3,vk3,rfl,hrd3,hb3⟩;obtain⟨Av,nv,Aw,nw,e1,e2⟩:=QY hrd3;subst e1;subst e2;have HR3:=hid hrd3;(have HB3:Hid (Below (w.heap.size+2) ((w.alloc (.cells #[.slice A3 t.es.length n3,.slice A4 t.ks.length n4,.slice A5 c.length n5] 29)).alloc (.cells #[.slice none 0 0,.slice none 0 0,.slice none 0 0] 29)) w3):=hid (((Below.refl (w.heap.size+2) ((w.alloc (.cells #[.slice A3 t.es.length n3,.slice A4 t.ks.length n4,.slice A5 c.length n5] 29)).alloc (.cells #[.slice none 0 0,.slice none 0 0,.slice none 0 0] 29))).drew.alloc (by simp) (.cells #[] 45)).trans (hb3.mono (by simp))));(have hg3:w3.heap[w.heap.size+2]?=some (.cells #[] 45 (0,0)):=(hb3.block _ (by simp)).trans (Qd (by simp)));(have HQ3:=hid hg3);(have hs3:w.heap.size+3<=w3.heap.size:=(by have:=hb3.size;simpa using this));clear hg3;clear hrd3)
  refine hK.out _ _ ?_ (fun hHeld2=>?_)
  ·exact (HX.out _ HB3.out).2.2.1
  clear hK K
  try simp only[Act.put,List.setIfInBounds_toArray,List.set_cons_zero,List.set_cons_succ,List.getElem_toArray,List.getElem_cons_zero,List.getElem_cons_succ]
  refine wpAnyH_ready (rs:=[6]) (by kernel_rfl) (by simp) ?_
  refine AllReadyH.cons (o:=_) rfl (fun K hK=>?_) AllReadyH.nil
  (refine ZW (v:=.slice (some ⟨w.heap.size+2,0,none⟩) 0 0) (base:=w.heap.size+2) rfl (.tmp 6) (.tmp 8) _ rfl JF (by decide) (by decide) (fun _ _ h=>h.one) rfl (OwnP.zero HQ3.out (Nat.le_refl _)) rfl (HC.out _ (HX.out _ HB3.out).1).2 (by unfold Few;simp;omega) (by omega) ?_;intro v5 w5 hown5 hb5 hgr5;rw[List.nil_append]at hown5;obtain⟨A7,c7,hv7⟩:=OwnP.shape hown5;subst hv7;have HB5:=hid (HB3.out.trans hb5);have HO5:=hid hown5;have HR5:Hid (t.rdu w5 (fun b=>w.heap.size+2<=b/\b<w5.heap.size) (.slice Av t.es.length nv) (.slice Aw t.ks.length nw)):=hid (YH (fun b hb=>hgr5.block b hb.2 (fun e=>by have h2:=hb.1;simp only[World.size_drew,World.size_alloc]at h2;have e2:b=w.heap.size+2:=(by simpa[Value.ownBlock] using e);omega)) (fun b hb=>⟨by have:=hb.1;simp only[World.size_drew,World.size_alloc]at this;omega,by have:=hb.2;have:=hb5.size;omega⟩) _ _ _ HR3.out);clear hown5 hb5 hgr5)
  refine hK.out _ _ ?_ (fun hHeld6=>?_)
  ·exact (HX.out _ HB5.out).2.2.1
  clear hK K
  try simp only[Act.put,List.setIfInBounds_toArray,List.set_cons_zero,List.set_cons_succ,List.getElem_toArray,List.getElem_cons_zero,List.getElem_cons_succ]
  refine wpAnyH_take (i:=7) (oi:=_) (v:=?vb7) rfl (by kernel_rfl) (by kernel_rfl) (by kernel_rfl) (fun _ _ _ h=>h) (Or.inl ⟨by rfl,?hb7⟩) (by assumption) ?_
  case hb7=>(intro w hSw;(try dsimp only at hSw);go_simp;(try with_reducible rfl))
  simp only[Act.put,List.setIfInBounds_toArray,List.set_cons_zero,List.set_cons_succ,List.getElem_toArray,List.getElem_cons_zero,List.getElem_cons_succ]
  refine wpAnyH_done (by kernel_rfl) ?_ _
  change wpList _ _ _ _ _ _
  obtain⟨hB5,hs5,_,hG5⟩:=HX.out _ HB5.out
  have HG5:=hid hG5
  obtain⟨k0,k1,k2,z0,z1,z2⟩:=bz3 hG5
  clear hG5
  go_wp2_with fail
  obtain⟨r0,r1,r2,hK,hS⟩:=box3 HG5.out (.slice Av t.es.length nv) (.slice Aw t.ks.length nw) (.slice A7 c.length c7)
  have hBW:Below w.heap.size w (((w5.setCell ⟨w.heap.size+1,0,none⟩ (.slice Av t.es.length nv)).setCell ⟨w.heap.size+1,1,none⟩ (.slice Aw t.ks.length nw)).setCell ⟨w.heap.size+1,2,none⟩ (.slice A7 c.length c7)):=((hB5.setCell (by simp) _).setCell (by simp) _).setCell (by simp) _
  clear k0 k1 k2 z0 z1 z2
  generalize (((w5.setCell ⟨w.heap.size+1,0,none⟩ (.slice Av t.es.length nv)).setCell ⟨w.heap.size+1,1,none⟩ (.slice Aw t.ks.length nw)).setCell ⟨w.heap.size+1,2,none⟩ (.slice A7 c.length c7))=W at *
  refine bodyPost_ret (v:=.agg #[.slice Av t.es.length nv,.slice Aw t.ks.length nw,.slice A7 c.length c7]) (by simp[results,Tryz.results14,go_sem,r0,r1,r2]) rfl ⟨_,_,_,rfl,?_,?_,hBW⟩
  ·exact YH (fun b hb=>hK b (by have:=hb.1;omega)) (fun b hb=>⟨by have:=hb.1;omega,by have:=hb.2;omega⟩) _ _ _ HR5.out
  ·exact (HO5.out.slu (by unfold Big;omega)).up (fun b hb=>hK b (by have:=hb.1;omega)) (fun b hb=>⟨by have:=hb.1;omega,by have:=hb.2.1;omega⟩) (fun _ _ _ h=>h)
theorem zY4 {W:World}{v:Value}{l:List Opr}(h:SlP W W.heap.size 4 (OpE W W.heap.size) v l):OpL W v l:=
 SlP.imp h (Below.refl _ _) (Nat.le_refl _) fun _ _ _ ⟨vp,h1,h2,h3⟩=>by
  obtain⟨A,c,h4,_⟩:=id h2
  subst h4
  exact⟨A,c,h1,Z8.1 h2,h3⟩
theorem YP {t:Tr}{o:Opr}{d:Dt}(h:appI t o d≠0):appT t o d=.mk [] []/\appC t o d=[]:=by
 unfold appT appC
 exact⟨if_neg fun q=>h q.1,if_neg h⟩
theorem zQ6 (u:Tr)(o:Opr)(d:Dt)(hz:u.sz<=200):(leafX u o d).1.sz<=2/\(leafX u o d).2.1.length<=8000:=by
 have s0:(Tr.mk [] []).sz=0:=by simp[Tr.sz,Tr.szL]
 have s1:∀ e:En,(Tr.mk [e] []).sz=1:=fun e=>by simp[Tr.sz,Tr.szL]
 have s2:∀ (k:ByteArray) (e:En),(Tr.mk [] [(k,.mk [e] [])]).sz=2:=fun k e=>by simp[Tr.sz,Tr.szL]
 have h1:=Yk u d
 have h2:=Yk (kidT u o.s) d
 have h3:=YE u o.s
 have h6:(ownD u).length<=u.sz:=by unfold ownD;rw[List.length_map];have:=es_sz u;omega
 have h4:(ctxOf [d]).length<=8:=by have:=QL [d];simpa using this
 have h5:(ctxOf (d :: ownD u)).length<=4*(u.sz+2):=by have:=QL (d :: ownD u);rw[List.length_cons]at this;omega
 have e1:∀ (b:Prop) [Decidable b] (X Y:Tr),(X.sz<=2)->(Y.sz<=2)->(if b then X else Y).sz<=2:=fun b _ X Y h k=>by split<;>assumption
 have e2:∀ (b:Prop) [Decidable b] (X:List Sp),X.length<=8000->(if b then X else []).length<=8000:=fun b _ X h=>by split;exact h;simp
 have c1:∀ e:En,(Tr.mk [e] []).sz<=2:=fun e=>by rw[s1];omega
 have c2:∀ (k:ByteArray) (e:En),(Tr.mk [] [(k,.mk [e] [])]).sz<=2:=fun k e=>by rw[s2];omega
 have c0:(Tr.mk [] []).sz<=2:=by rw[s0];omega
 unfold leafX
 split
 ·exact⟨e1 _ _ _ (c1 _) c0,e2 _ _ (by omega)⟩
 split
 ·exact⟨c0,e2 _ _ (by omega)⟩
 split
 ·exact⟨e1 _ _ _ (c2 _ _) c0,e2 _ _ (by omega)⟩
 split
 ·exact⟨c0,e2 _ _ (by omega)⟩
 split
 ·exact⟨e1 _ _ _ (c1 _) c0,e2 _ (ctxOf [d]) (Nat.le_trans h4 (by omega))⟩
 split
 ·exact⟨e1 _ _ _ (c1 _) c0,e2 _ (ctxOf (d :: ownD u)) (Nat.le_trans h5 (by omega))⟩
 ·exact⟨c0,e2 _ _ (by omega)⟩
theorem zX1 (t:Tr)(p:List ByteArray)(i:Nat)(x:Tr×List Sp×Int):(updX t p i x).1.sz<=x.1.sz+1/\(updX t p i x).2.1.length<=x.2.1.length:=by
 have s0:(Tr.mk [] []).sz=0:=by simp[Tr.sz,Tr.szL]
 unfold updX updT updC wrapT
 constructor
 ·simp only
  split
  ·split
   ·split
    ·omega
    ·simp[Tr.sz,Tr.szL];omega
   ·omega
  ·omega
 ·simp only
  split
  ·exact Nat.le_refl _
  ·simp
def BoxG (m:Nat)(V:World)(e:TypeId)(T:Tr)(c:List Sp)(s:Value)(wx:World):Prop:=
 ∃ g,s=.pointer (some ⟨g,0,none⟩)/\m<=g/\∃ u v x,wx.heap[g]?=some (.cells #[u,v,x] e (0,0))/\T.rda wx (fun b=>m<=b/\b<wx.heap.size) u v/\SlA wx (fun b=>m<=b/\b<wx.heap.size) 3 SpE x c/\Below m V wx
theorem JB {m N:Nat}{V w7:World}{e:TypeId}{T:Tr}{c:List Sp}{u v x:Value}(hb:Below m V w7)(hm:m<=w7.heap.size)(hN:m<=N)(hr:T.rda w7 (fun b=>N<=b/\b<w7.heap.size) u v)(hc:SlA w7 (fun b=>N<=b/\b<w7.heap.size) 3 SpE x c) :
  BoxG m V e T c (.pointer (some ⟨w7.heap.size,0,none⟩)) (w7.alloc (.cells #[u,v,x] e)):=
 ⟨w7.heap.size,rfl,hm,u,v,x,Qd rfl,Qs (fun b hb=>Qg hb.2) (fun b hb=>⟨by omega,by rw[World.size_alloc];omega⟩) _ _ _ hr,hc.up (fun b hb=>Qg hb.2) (fun b hb=>⟨by omega,by rw[World.size_alloc];omega⟩) (fun _ _ _ h=>h),hb.alloc hm _⟩
theorem XR {m N g:Nat}{V w7:World}{e:TypeId}{T:Tr}{c:List Sp}{u v x a b d:Value}(hbx:w7.heap[g]?=some (.cells #[a,b,d] e (0,0)))(hb:Below m V w7)(hg:m<=g)(hgN:g<N)(hr:T.rda w7 (fun b=>N<=b/\b<w7.heap.size) u v)(hc:SlA w7 (fun b=>N<=b/\b<w7.heap.size) 3 SpE x c) :
  BoxG m V e T c (.pointer (some ⟨g,0,none⟩)) (((w7.setCell ⟨g,0,none⟩ u).setCell ⟨g,1,none⟩ v).setCell ⟨g,2,none⟩ x):=by
 obtain⟨_,_,_,hK,hS⟩:=box3 hbx u v x
 have hW:=Qe (i:=2) (Qe (i:=1) (Qe (i:=0) hbx u) v) x
 exact⟨g,rfl,hg,u,v,x,by simpa using hW,Qs (fun b hb=>hK b (by omega)) (fun b hb=>⟨by omega,by rw[hS];exact hb.2⟩) _ _ _ hr,hc.up (fun b hb=>hK b (by omega)) (fun b hb=>⟨by omega,by rw[hS];exact hb.2⟩) (fun _ _ _ h=>h),((hb.setCell hg _).setCell hg _).setCell hg _⟩
theorem qW6 {t:Tr}{o:Opr}{d:Dt}{X:Tr×List Sp×Int}(ho:OpOk o)(hi:opI o=0)(ht:t.right 5=true)(hc:chkT t d=true)(hX:X=Zy t o.path o.path.length (leafX (getK t o.path) o d)):(X.2.2=0->appT t o d=X.1/\appC t o d=X.2.1/\appI t o d=0)/\(X.2.2≠0->appI t o d=X.2.2):=by
 have h:=zQz ho hc
 rw[←hX]at h
 have hA:appI t o d=if fullB t o then 4 else 0:=by
  unfold appI
  rw[ht,hi,hc];simp
 cases hf:fullB t o
 ·rw[hf,if_neg (by simp)]at h
  rw[hf,if_neg (by simp)]at hA
  rw[h]
  refine⟨fun _=>⟨?_,?_,hA⟩,fun h=>absurd rfl h⟩
  ·unfold appT
   simp only[hA,true_and]
  ·unfold appC
   rw[if_pos hA]
 ·rw[hf,if_pos rfl]at h
  rw[hf,if_pos rfl]at hA
  exact⟨fun h0=>(by rw[h]at h0;cases h0),fun _=>(by rw[hA,h])⟩
theorem qZ7 (t:Tr)(o:Opr)(d:Dt)(ve vk vp:Value)(w:World)(h:t.rd w w.heap.size ve vk)(hp:SlP w w.heap.size 1 StE vp o.path)(ho:o.Ok)(hd:d.Ok)(hN:t.sz<=200) :
  Calls Tryz.prog 61 #[.agg #[ve,vk],.agg #[vp,.int .i64 o.act,.string o.s,.int .i64 o.n],.agg #[.int .i64 d.dc,.int .i64 d.n]] w (RetCE w (appT t o d) (appC t o d) (appI t o d)):=by
 have HC:Hid (∀ w',Below w.heap.size w w'->t.rd w' w'.heap.size ve vk):=fun w' hb=>Qi hb hb.size _ _ _ h
 have HD:Hid (∀ w',Below w.heap.size w w'->SlP w' w'.heap.size 1 StE vp o.path):=fun w' hb=>hp.imp hb hb.size fun _ _ _ h=>h
 obtain⟨A3,n3,A4,n4,rfl,rfl⟩:=Qj h
 obtain⟨A5,n5,rfl,p1,p2,p3⟩:=hp
 unfold Big at p2
 have HO:=hid ho
 obtain⟨oa,on,os⟩:=ho
 obtain⟨path,act,s,n⟩:=o
 simp only at oa on os p1 p2 p3 HD HO ⊢
 have hb0:=((((Below.refl w.heap.size w).alloc (Nat.le_refl _) (.cells #[.slice A3 t.es.length n3,.slice A4 t.ks.length n4] 25)).alloc (by simp) (.cells #[.slice A5 path.length n5,.int .i64 act,.string s,.int .i64 n] 65)).alloc (by simp;omega) (.cells #[.int .i64 d.dc,.int .i64 d.n] 78)).alloc (by simp;omega) (.cells #[.slice none 0 0,.slice none 0 0,.slice none 0 0] 29)
 have HX:Hid (∀ W,Below (w.heap.size+4) ((((w.alloc (.cells #[.slice A3 t.es.length n3,.slice A4 t.ks.length n4] 25)).alloc (.cells #[.slice A5 path.length n5,.int .i64 act,.string s,.int .i64 n] 65)).alloc (.cells #[.int .i64 d.dc,.int .i64 d.n] 78)).alloc (.cells #[.slice none 0 0,.slice none 0 0,.slice none 0 0] 29)) W ->
   (Below w.heap.size w W/\t.rd W W.heap.size (.slice A3 t.es.length n3) (.slice A4 t.ks.length n4)/\SlP W W.heap.size 1 StE (.slice A5 path.length n5) path/\W.cell? ⟨w.heap.size,0,none⟩=some (.slice A3 t.es.length n3)/\W.cell? ⟨w.heap.size,1,none⟩=some (.slice A4 t.ks.length n4)/\W.cell? ⟨w.heap.size+1,0,none⟩=some (.slice A5 path.length n5)/\W.cell? ⟨w.heap.size+1,1,none⟩=some (.int .i64 act)/\W.cell? ⟨w.heap.size+1,2,none⟩=some (.string s)/\W.cell? ⟨w.heap.size+1,3,none⟩=some (.int .i64 n) /\
    W.cell? ⟨w.heap.size+2,0,none⟩=some (.int .i64 d.dc)/\W.cell? ⟨w.heap.size+2,1,none⟩=some (.int .i64 d.n)/\W.heap[w.heap.size+3]?=some (.cells #[.slice none 0 0,.slice none 0 0,.slice none 0 0] 29 (0,0)))):=fun W hW=>by
  have g0:W.heap[w.heap.size]?=some (.cells #[.slice A3 t.es.length n3,.slice A4 t.ks.length n4] 25 (0,0)):=(hW.block _ (by omega)).trans ((Qg (by simp<;>omega)).trans ((Qg (by simp<;>omega)).trans ((Qg (by simp)).trans (Qd rfl))))
  have g1:W.heap[w.heap.size+1]?=some (.cells #[.slice A5 path.length n5,.int .i64 act,.string s,.int .i64 n] 65 (0,0)):=(hW.block _ (by omega)).trans ((Qg (by simp<;>omega)).trans ((Qg (by simp)).trans (Qd (by simp))))
  have g2:W.heap[w.heap.size+2]?=some (.cells #[.int .i64 d.dc,.int .i64 d.n] 78 (0,0)):=(hW.block _ (by omega)).trans ((Qg (by simp)).trans (Qd (by simp)))
  have g3:W.heap[w.heap.size+3]?=some (.cells #[.slice none 0 0,.slice none 0 0,.slice none 0 0] 29 (0,0)):=(hW.block _ (by omega)).trans (Qd (by simp))
  have hB:=hb0.trans (hW.mono (by omega))
  exact⟨hB,HC.out _ hB,HD.out _ hB,Qa (i:=0) g0,Qa (i:=1) g0,Qa (i:=0) g1,Qa (i:=1) g1,Qa (i:=2) g1,Qa (i:=3) g1,Qa (i:=0) g2,Qa (i:=1) g2,g3⟩
 clear h
 go_enter Tryz.func61,Tryz.ntmps61
 go_wp2_with fail
 obtain⟨hB,rt,rp,c0,c1,p4,p5,p6,p7,d0,d1,g3⟩:=HX.out _ (Below.refl _ _)
 refine (QG t _ _ _ rt).mono ?_
 cases ht:t.right 5
 ·rintro e w1 ⟨rfl,hb1⟩
  have HBN:=hid (hb1.mono (show w.heap.size+4<=_ by simp))
  have hAE:appI t ⟨path,act,s,n⟩ d=1:=by unfold appI;rw[ht];rfl
  have HAE:=hid hAE
  obtain⟨hAT,hAC⟩:=YP (t:=t) (o:=⟨path,act,s,n⟩) (d:=d) (by rw[hAE];first|decide|assumption)
  have HAT:=hid hAT
  have HAC:=hid hAC
  clear hAE hAT hAC
  clear hB rt rp c0 c1 p4 p5 p6 p7 d0 d1 g3 ht hb1
  have hG:=(HX.out _ HBN.out).2.2.2.2.2.2.2.2.2.2.2
  have hBz:=(HX.out _ HBN.out).1
  have HG:=hid hG
  have HBZ:=hid hBz
  obtain⟨k0,k1,k2,z0,z1,z2⟩:=bz3 hG
  clear hG hBz
  go_wp2_with fail
  obtain⟨r0,r1,r2,q1,q2,q3⟩:=QS (N:=w.heap.size+4) (T:=.mk [] []) (C:=[]) HG.out HBZ.out (by omega) (by omega) (Qp _ _) SlA.nil
  exact bodyPost_ret (v:=.tuple #[.agg #[.slice none 0 0,.slice none 0 0,.slice none 0 0],.int .i64 1]) (by simp[results,Tryz.results61,go_sem,r0,r1,r2]<;>rfl) rfl ⟨_,_,_,by rw[HAE.out],by rw[HAT.out];exact q1,by rw[HAC.out];exact q2,q3⟩
 rintro e w1 ⟨rfl,hb1⟩
 have HBN:=hid (hb1.mono (show w.heap.size+4<=_ by simp))
 clear hB rt rp c0 c1 p4 p5 p6 p7 d0 d1 g3 hb1
 obtain⟨hB,rt,rp,c0,c1,p4,p5,p6,p7,d0,d1,g3⟩:=HX.out _ HBN.out
 have HT:=hid ht
 clear ht
 go_wp2_with fail
 refine (qW5 ⟨path,act,s,n⟩ _ _ rp HO.out).mono ?_
 by_cases hi:opI ⟨path,act,s,n⟩=0
 case neg=>
  rintro e w2 ⟨rfl,hb2⟩
  have HBN2:=hid (HBN.out.trans (hb2.mono (by have:=HBN.out.size;simpa using this)))
  have hne:(opI ⟨path,act,s,n⟩==0)=false:=by simpa using hi
  have hAE:appI t ⟨path,act,s,n⟩ d=(opI ⟨path,act,s,n⟩):=by unfold appI;rw[HT.out];simp only[Bool.not_true,Bool.false_eq_true,if_false];rw[if_pos hi]
  have HAE:=hid hAE
  obtain⟨hAT,hAC⟩:=YP (t:=t) (o:=⟨path,act,s,n⟩) (d:=d) (by rw[hAE];first|decide|assumption)
  have HAT:=hid hAT
  have HAC:=hid hAC
  clear hAE hAT hAC
  clear hB rt rp c0 c1 p4 p5 p6 p7 d0 d1 g3 hb2 hi HBN
  have HBN:=HBN2
  have hG:=(HX.out _ HBN.out).2.2.2.2.2.2.2.2.2.2.2
  have hBz:=(HX.out _ HBN.out).1
  have HG:=hid hG
  have HBZ:=hid hBz
  obtain⟨k0,k1,k2,z0,z1,z2⟩:=bz3 hG
  clear hG hBz
  go_wp2_with fail
  obtain⟨r0,r1,r2,q1,q2,q3⟩:=QS (N:=w.heap.size+4) (T:=.mk [] []) (C:=[]) HG.out HBZ.out (by omega) (by omega) (Qp _ _) SlA.nil
  exact bodyPost_ret (v:=.tuple #[.agg #[.slice none 0 0,.slice none 0 0,.slice none 0 0],.int .i64 (opI ⟨path,act,s,n⟩)]) (by simp[results,Tryz.results61,go_sem,r0,r1,r2]<;>rfl) rfl ⟨_,_,_,by rw[HAE.out],by rw[HAT.out];exact q1,by rw[HAC.out];exact q2,q3⟩
 rw[hi]
 rintro e w2 ⟨rfl,hb2⟩
 have HBN2:=hid (HBN.out.trans (hb2.mono (by have:=HBN.out.size;simpa using this)))
 have HI:=hid hi
 clear hB rt rp c0 c1 p4 p5 p6 p7 d0 d1 g3 hb2 hi HBN
 have HBN:=HBN2
 clear HBN2
 obtain⟨hB,rt,rp,c0,c1,p4,p5,p6,p7,d0,d1,g3⟩:=HX.out _ HBN.out
 go_wp2_with fail
 refine (Zm t d _ _ _ rt (by omega)).mono ?_
 cases hk:chkT t d
 ·have hck:chkI t d=1:=by unfold chkI;rw[hk];rfl
  rw[hck]
  rintro e w3 ⟨rfl,hb3⟩
  have HBN2:=hid (HBN.out.trans (hb3.mono (by have:=HBN.out.size;simpa using this)))
  have hAE:appI t ⟨path,act,s,n⟩ d=1:=by unfold appI;rw[HT.out,HI.out,hk];rfl
  have HAE:=hid hAE
  obtain⟨hAT,hAC⟩:=YP (t:=t) (o:=⟨path,act,s,n⟩) (d:=d) (by rw[hAE];first|decide|assumption)
  have HAT:=hid hAT
  have HAC:=hid hAC
  clear hAE hAT hAC
  clear hB rt rp c0 c1 p4 p5 p6 p7 d0 d1 g3 hb3 hk hck HBN
  have HBN:=HBN2
  have hG:=(HX.out _ HBN.out).2.2.2.2.2.2.2.2.2.2.2
  have hBz:=(HX.out _ HBN.out).1
  have HG:=hid hG
  have HBZ:=hid hBz
  obtain⟨k0,k1,k2,z0,z1,z2⟩:=bz3 hG
  clear hG hBz
  go_wp2_with fail
  obtain⟨r0,r1,r2,q1,q2,q3⟩:=QS (N:=w.heap.size+4) (T:=.mk [] []) (C:=[]) HG.out HBZ.out (by omega) (by omega) (Qp _ _) SlA.nil
  exact bodyPost_ret (v:=.tuple #[.agg #[.slice none 0 0,.slice none 0 0,.slice none 0 0],.int .i64 1]) (by simp[results,Tryz.results61,go_sem,r0,r1,r2]<;>rfl) rfl ⟨_,_,_,by rw[HAE.out],by rw[HAT.out];exact q1,by rw[HAC.out];exact q2,q3⟩
 have hck:chkI t d=0:=by unfold chkI;rw[hk];rfl
 rw[hck]
 rintro e w3 ⟨rfl,hb3⟩
 have HBN2:=hid (HBN.out.trans (hb3.mono (by have:=HBN.out.size;simpa using this)))
 have HK:=hid hk
 clear hB rt rp c0 c1 p4 p5 p6 p7 d0 d1 g3 hb3 hk hck HBN
 have HBN:=HBN2
 clear HBN2
 have hsN:=HBN.out.size
 simp only[World.size_alloc]at hsN
 obtain⟨hB,rt,rp,c0,c1,p4,p5,p6,p7,d0,d1,g3⟩:=HX.out _ HBN.out
 clear g3
 go_upto_region 9 with (fail)
 obtain⟨u,HU⟩:∃ u,Hid (tgetT t path=u):=⟨_,rfl⟩
 obtain⟨⟨LT,LC,LE⟩,HLX⟩:∃ q,Hid (leafX u ⟨path,act,s,n⟩ d=q):=⟨_,rfl⟩
 have HUK:Hid (getK t path=u):=(XL HT.out path).symm.trans HU.out
 have hus:u.sz<=200:=by rw[←HUK.out];exact Nat.le_trans (Q4 t path) hN
 obtain⟨hLs,hLl⟩:=zQ6 u ⟨path,act,s,n⟩ d hus
 rw[HLX.out]at hLs hLl
 simp only at hLs hLl
 have HDO:=hid hd
 have HY:Hid (∀ W,Below w3.heap.size w3 W->(Below w.heap.size w W/\t.rd W W.heap.size (.slice A3 t.es.length n3) (.slice A4 t.ks.length n4)/\SlP W W.heap.size 1 StE (.slice A5 path.length n5) path)):=fun W hW=>by
  obtain⟨a,b,c,_⟩:=HX.out W (HBN.out.trans (hW.mono (by omega)))
  exact⟨a,b,c⟩
 have HKK:Hid (∀ W,Below w3.heap.size w3 W->(W.cell? ⟨w.heap.size,0,none⟩=some (.slice A3 t.es.length n3)/\W.cell? ⟨w.heap.size,1,none⟩=some (.slice A4 t.ks.length n4)/\W.cell? ⟨w.heap.size+1,0,none⟩=some (.slice A5 path.length n5)/\W.cell? ⟨w.heap.size+1,1,none⟩=some (.int .i64 act)/\W.cell? ⟨w.heap.size+1,2,none⟩=some (.string s)/\W.cell? ⟨w.heap.size+1,3,none⟩=some (.int .i64 n)/\W.cell? ⟨w.heap.size+2,0,none⟩=some (.int .i64 d.dc)/\W.cell? ⟨w.heap.size+2,1,none⟩=some (.int .i64 d.n))):=fun W hW=>by
  obtain⟨_,_,_,a0,a1,a2,a3,a4,a5,a6,a7,_⟩:=HX.out W (HBN.out.trans (hW.mono (by omega)))
  exact⟨a0,a1,a2,a3,a4,a5,a6,a7⟩
 clear hB rt rp hus
 go_cut [10,11] (fun s10 s11 wx=>s11=.int .i64 LE/\BoxG w3.heap.size w3 29 LT LC s10 wx)
 case first=>
  go_region_held3 (fun W=>W.cell? ⟨w.heap.size,0,none⟩=some (.slice A3 t.es.length n3)/\W.cell? ⟨w.heap.size,1,none⟩=some (.slice A4 t.ks.length n4)/\W.cell? ⟨w.heap.size+1,0,none⟩=some (.slice A5 path.length n5)/\W.cell? ⟨w.heap.size+1,1,none⟩=some (.int .i64 act)/\W.cell? ⟨w.heap.size+1,2,none⟩=some (.string s)/\W.cell? ⟨w.heap.size+1,3,none⟩=some (.int .i64 n)/\W.cell? ⟨w.heap.size+2,0,none⟩=some (.int .i64 d.dc)/\W.cell? ⟨w.heap.size+2,1,none⟩=some (.int .i64 d.n))
   (first|go_keep|exact HKK.out _ hbr5.out|exact HKK.out _ (hbr5.out.trans (by go_grown))|exact HKK.out _ hbr4.out|exact HKK.out _ (hbr4.out.trans (by go_grown))|exact HKK.out _ (((hbr5.out.setCell (by first|(simp;done)|(simp;omega)) _).setCell (by first|(simp;done)|(simp;omega)) _).setCell (by first|(simp;done)|(simp;omega)) _)|exact HKK.out _ (by go_grown)|fail)
   (first
    |(go_at_call 99;go_loud ((refine (zQ3 u ⟨path,act,s,n⟩ d _ _ _ _ (HRu.out _ (by go_grown)) (HY.out _ (hbr4.out.trans (by go_grown))).2.2 HO.out HDO.out (by have:=hN;rw[←HUK.out];exact Nat.le_trans (Q4 t path) (by omega))).mono ?_);rw[HLX.out];dsimp only;rintro e w5 ⟨xe5,xk5,xc5,rfl,hrd5,hsl5,hb⟩;have hbr5:Hid (Below w3.heap.size w3 w5):=hid (Below.trans (hbr4.out.trans (by go_grown)) (hb.mono (by first|omega|(simp;done)|(simp;omega))));have hsr5:=hbr5.out.size;obtain⟨Ar5,nr5,Br5,mr5,hv1,hv2⟩:=Ql hrd5;subst hv1;subst hv2;obtain⟨Dr5,kr5,hv3⟩:=hsl5.shape;subst hv3;have HR5:=hid hrd5;have HL5:=hid hsl5;clear hrd5 hsl5;(first|(have HG5:Hid (w5.heap[w4.heap.size]?=some (.cells #[.slice none 0 0,.slice none 0 0,.slice none 0 0] 29 (0,0))):=hid (z_new hb);have k0:w5.cell? ⟨w4.heap.size,0,none⟩=some (.slice none 0 0):=Qa (i:=0) HG5.out;have k1:w5.cell? ⟨w4.heap.size,1,none⟩=some (.slice none 0 0):=Qa (i:=1) HG5.out;have k2:w5.cell? ⟨w4.heap.size,2,none⟩=some (.slice none 0 0):=Qa (i:=2) HG5.out;have z0:=Qb (i:=0) HG5.out;have z1:=Qb (i:=1) HG5.out;have z2:=Qb (i:=2) HG5.out;have hna0:w.heap.size≠w4.heap.size:=(by omega);have hnb0:w4.heap.size≠w.heap.size:=(by omega);have hna1:(w.heap.size+1)≠w4.heap.size:=(by omega);have hnb1:w4.heap.size≠(w.heap.size+1):=(by omega);have hna2:(w.heap.size+2)≠w4.heap.size:=(by omega);have hnb2:w4.heap.size≠(w.heap.size+2):=(by omega))|(have HG5:Hid (w5.heap[w3.heap.size]?=some (.cells #[.slice none 0 0,.slice none 0 0,.slice none 0 0] 29 (0,0))):=hid ((hb.block _ (lt_of_block HGA.out)).trans HGA.out);have k0:w5.cell? ⟨w3.heap.size,0,none⟩=some (.slice none 0 0):=Qa (i:=0) HG5.out;have k1:w5.cell? ⟨w3.heap.size,1,none⟩=some (.slice none 0 0):=Qa (i:=1) HG5.out;have k2:w5.cell? ⟨w3.heap.size,2,none⟩=some (.slice none 0 0):=Qa (i:=2) HG5.out;have z0:=Qb (i:=0) HG5.out;have z1:=Qb (i:=1) HG5.out;have z2:=Qb (i:=2) HG5.out;have hna0:w.heap.size≠w3.heap.size:=(by omega);have hnb0:w3.heap.size≠w.heap.size:=(by omega);have hna1:(w.heap.size+1)≠w3.heap.size:=(by omega);have hnb1:w3.heap.size≠(w.heap.size+1):=(by omega);have hna2:(w.heap.size+2)≠w3.heap.size:=(by omega);have hnb2:w3.heap.size≠(w.heap.size+2):=(by omega))|skip);clear hb))
    |(go_at_call 83;go_loud ((refine (Xz t path _ _ _ _ (HY.out _ (by go_grown)).2.1 (HY.out _ (by go_grown)).2.2 (by omega)).mono ?_);rw[HU.out];rintro e w4 ⟨xe4,xk4,rfl,hrd4,hb⟩;have hbr4:Hid (Below w3.heap.size w3 w4):=hid (Below.trans (by go_grown) (hb.mono (by first|omega|(simp;done)|(simp;omega))));have hsr4:=hbr4.out.size;obtain⟨Ar4,nr4,Br4,mr4,hv1,hv2⟩:=Ql hrd4;subst hv1;subst hv2;have HR4:=hid hrd4;have HRu:Hid (∀ W,Below w4.heap.size w4 W->u.rd W W.heap.size (.slice Ar4 u.es.length nr4) (.slice Br4 u.ks.length mr4)):=fun W hW=>Zx HR4.out (fun b hb=>hb.2) hW;clear hrd4;(first|(have HGA:Hid (w4.heap[w3.heap.size]?=some (.cells #[.slice none 0 0,.slice none 0 0,.slice none 0 0] 29 (0,0))):=hid (zXx hb))|(have HGA:Hid (w4.heap[w3.heap.size]?=some (.cells #[.slice none 0 0,.slice none 0 0,.slice none 0 0] 29 (0,0))):=hid (qYz hb))|(have HGA:Hid (w4.heap[w3.heap.size]?=some (.cells #[.slice none 0 0,.slice none 0 0,.slice none 0 0] 29 (0,0))):=hid (zYy hb))|(have HGA:Hid (w4.heap[w3.heap.size]?=some (.cells #[.slice none 0 0,.slice none 0 0,.slice none 0 0] 29 (0,0))):=hid (z_new hb))|skip);clear hb)))
  all_goals
   go_wp2_with fail
   go_meet
   case rel=>exact⟨rfl,(by first|exact JB hbr5.out hbr5.out.size (by first|omega|(simp;omega)) HR5.out HL5.out|exact XR HG5.out hbr5.out (by omega) (by first|(simp;done)|(simp;omega)|exact lt_of_block HGA.out|(have:=lt_of_block HGA.out;simp;omega)) HR5.out HL5.out)⟩
 case rest=>
  obtain⟨rfl,g,rfl,hgm,xe,xk,xc,hG,hrd,hsl,hbz⟩:=hcut
  obtain⟨wq,hwq⟩:∃ z:World,z=wc:=⟨wc,rfl⟩
  subst hwq
  obtain⟨Aa,na,Ab,nb,rfl,rfl⟩:=Ql hrd
  obtain⟨Ac,nc,rfl⟩:=hsl.shape
  have hgl:=lt_of_block hG
  obtain⟨a0,a1,a2,a3,a4,a5,a6,a7⟩:=HKK.out _ hbz
  have hpl:=QZ (op_ok HI.out).path
  have hpl1:=hpl.1
  have hpl2:=hpl.2.1
  simp only at hpl1 hpl2
  clear hpl
  obtain⟨P,HP⟩:∃ P,Hid (Zy t path path.length (LT,LC,LE)=P):=⟨_,rfl⟩
  go_wp2_with fail
  go_loopw [11,12] (fun e i wr=>∃ (j:Nat) (X:Tr×List Sp×Int),j<=path.length/\i=.int .i64 ((j:Int)-1)/\e=.int .i64 X.2.2/\Hid (Zy t path j X=P)/\X.1.sz+j<=2+path.length/\X.2.1.length<=8000/\(∃ xa xb xd,wr.heap[g]?=some (.cells #[xa,xb,xd] 29 (0,0))/\X.1.rda wr (fun b=>w3.heap.size<=b/\b<wr.heap.size) xa xb/\SlA wr (fun b=>w3.heap.size<=b/\b<wr.heap.size) 3 SpE xd X.2.1)/\Below w3.heap.size w3 wr) (fun _ i _=>(intOf i+1).toNat)
  case atStart=>exact⟨path.length,(LT,LC,LE),Nat.le_refl _,by go_num,rfl,HP.out,by simp only;omega,hLl,⟨_,_,_,hG,hrd,hsl⟩,hbz⟩
  case round=>
   obtain⟨j,⟨XT,XC,XE⟩,hj,rfl,rfl,hup,hxs,hxl,⟨xa,xb,xd,hGr,hrr,hsr⟩,hbr⟩:=hrel
   simp only at hup hxs hxl hrr hsr
   obtain⟨Aa',na',Ab',nb',rfl,rfl⟩:=Ql hrr
   obtain⟨Ac',nc',rfl⟩:=hsr.shape
   have hgr:=lt_of_block hGr
   by_cases hex:j=0∨XE≠0
   ·have HXP:Hid ((XT,XC,XE)=P):=by
     rcases hex with rfl|hne
     ·exact hup.out
     ·have:=hup.out;rw[Y2 hne]at this;exact this
    have hTL:=qW6 (X:=(XT,XC,XE)) (op_ok HI.out) HI.out HT.out HK.out (by rw[HXP.out,←HP.out];simp only;rw[HUK.out,HLX.out])
    simp only at hTL
    have hGZ:=(HX.out wr (HBN.out.trans (hbr.mono (by omega)))).2.2.2.2.2.2.2.2.2.2.2
    have hBw:=(HX.out wr (HBN.out.trans (hbr.mono (by omega)))).1
    obtain⟨q0,q1,q2⟩:=bx3 hGr
    obtain⟨k0,k1,k2,z0,z1,z2⟩:=bz3 hGZ
    have HGZ:=hid hGZ
    have HBw:=hid hBw
    have HRR:=hid hrr
    have HSR:=hid hsr
    have hgne:g≠w.heap.size+3:=by omega
    have hgne':g≠w.heap.size+1+1+1:=by omega
    clear hGZ hBw hGr hrr hsr hup HXP
    by_cases he:XE=0
    ·subst he
     obtain⟨hA1,hA2,hA3⟩:=hTL.1 rfl
     have HA1:=hid hA1
     have HA2:=hid hA2
     have HA3:=hid hA3
     have hj0:j=0:=by rcases hex with h|h;exact h;exact absurd rfl h
     subst hj0
     clear hA1 hA2 hA3 hTL hex
     go_wp2_with fail
     obtain⟨r0,r1,r2,q3,q4,q5⟩:=QS (N:=w3.heap.size) HGZ.out HBw.out (by omega) (by omega) HRR.out HSR.out
     exact bodyPost_ret (v:=.tuple #[.agg #[.slice Aa' XT.es.length na',.slice Ab' XT.ks.length nb',.slice Ac' XC.length nc'],.int .i64 0]) (by simp[results,Tryz.results61,go_sem,r0,r1,r2]<;>rfl) rfl ⟨_,_,_,by rw[HA3.out],by rw[HA1.out];exact q3,by rw[HA2.out];exact q4,q5⟩
    ·have hA:=hTL.2 he
     have HAE:=hid hA
     obtain⟨hAT,hAC⟩:=YP (t:=t) (o:=⟨path,act,s,n⟩) (d:=d) (by rw[hA];exact he)
     have HAT:=hid hAT
     have HAC:=hid hAC
     have hne:(XE==0)=false:=by simpa using he
     clear hA hAT hAC hTL hex he
     go_wp2_with fail
     all_goals (
      obtain⟨r0,r1,r2,q3,q4,q5⟩:=QS (N:=w3.heap.size) (T:=.mk [] []) (C:=[]) HGZ.out HBw.out (by omega) (by omega) (Qp _ _) SlA.nil
      exact bodyPost_ret (v:=.tuple #[.agg #[.slice none 0 0,.slice none 0 0,.slice none 0 0],.int .i64 XE]) (by simp[results,Tryz.results61,go_sem,r0,r1,r2]<;>rfl) rfl ⟨_,_,_,by rw[HAE.out],by rw[HAT.out];exact q3,by rw[HAC.out];exact q4,q5⟩)
   ·have hj1:j≠0:=fun h=>hex (.inl h)
    have hXE:XE=0:=by
     by_cases h:XE=0
     ·exact h
     ·exact absurd (.inr h) hex
    subst hXE
    obtain⟨k,rfl⟩:∃ k,j=k+1:=⟨j-1,by omega⟩
    have hkl:k<path.length:=by omega
    obtain⟨key,hkey⟩:∃ key,path[k]?=some key:=⟨_,List.getElem?_eq_getElem hkl⟩
    obtain⟨bq,offq,hA5,hbq,hcq⟩:=p3 (by rintro rfl;simp at hpl1)
    subst hA5
    obtain⟨cs,⟨rfl,hkok⟩,_,hku⟩:=hcq k _ hkey
    have HKOK:=hid hkok
    rw[show (((k+1:Nat):Int)-1)=(k:Int) from by omega]
    obtain⟨T',HT'⟩:∃ q,Hid (tgetT t (path.take k)=q):=⟨_,rfl⟩
    obtain⟨UT,HU1⟩:∃ q,Hid (updT T' key XT XC=q):=⟨_,rfl⟩
    obtain⟨UC,HU2⟩:∃ q,Hid (updC T' key XT XC=q):=⟨_,rfl⟩
    obtain⟨UE,HU3⟩:∃ q,Hid (updE T' key XT XC=q):=⟨_,rfl⟩
    have HUX:Hid (updX t path k (XT,XC,0)=(UT,UC,UE)):=by
     unfold Hid updX
     rw[hkey]
     simp only[Option.getD_some]
     rw[HT'.out,HU1.out,HU2.out,HU3.out]
    have HUP:Hid (Zy t path k (UT,UC,UE)=P):=by
     have:=hup.out
     rw[Zy,if_pos rfl,HUX.out]at this
     exact this
    have hTs:T'.sz<=200:=by rw[←HT'.out,XL HT.out];exact Nat.le_trans (Q4 t _) hN
    have hus:=zX1 t path k (XT,XC,0)
    rw[HUX.out]at hus
    simp only at hus
    have HGr:=hid hGr
    have HY2:Hid (∀ W,Below wr.heap.size wr W->(t.rd W W.heap.size (.slice A3 t.es.length n3) (.slice A4 t.ks.length n4)/\SlP W W.heap.size 1 StE (.slice (some ⟨bq,offq,none⟩) path.length n5) path/\XT.rd W W.heap.size (.slice Aa' XT.es.length na') (.slice Ab' XT.ks.length nb')/\SlP W W.heap.size 3 SpE (.slice Ac' XC.length nc') XC)):=fun W hW=>by
     obtain⟨_,b,c⟩:=HY.out W (hbr.trans (hW.mono hbr.size))
     exact⟨b,c,Zx hrr (fun b hb=>hb.2) hW,hsr.slp (fun b hb=>hb.2) hW⟩
    have HK2:Hid (∀ W,Below wr.heap.size wr W->(W.cell? ⟨w.heap.size,0,none⟩=some (.slice A3 t.es.length n3)/\W.cell? ⟨w.heap.size,1,none⟩=some (.slice A4 t.ks.length n4)/\W.cell? ⟨w.heap.size+1,0,none⟩=some (.slice (some ⟨bq,offq,none⟩) path.length n5)/\W.cell? ⟨g,0,none⟩=some (.slice Aa' XT.es.length na')/\W.cell? ⟨g,1,none⟩=some (.slice Ab' XT.ks.length nb')/\W.cell? ⟨g,2,none⟩=some (.slice Ac' XC.length nc')/\W.cell? ⟨bq,offq+k,none⟩=some (.string key))):=fun W hW=>by
     obtain⟨a0,a1,a2,_⟩:=HKK.out W (hbr.trans (hW.mono hbr.size))
     have g1:=(hW.block g hgr).trans hGr
     have hBw:=(HY.out wr hbr).1
     exact⟨a0,a1,a2,Qa (i:=0) g1,Qa (i:=1) g1,Qa (i:=2) g1,(hW.cell (p:=⟨bq,offq+k,none⟩) (by show bq<_;have:=hBw.size;omega)).trans ((hBw.cell hbq).trans (by simpa using hku 0 _ rfl))⟩
    have hsr3:=hbr.size
    have hk5:k<=n5:=by omega
    have hk6:(k:Int)<=(n5:Int):=by omega
    have hk7:(k:Int)<=(path.length:Int):=by omega
    have hk8:(0:Int)<=(k:Int):=by omega
    have hk9:k<=path.length:=by omega
    have hk10:¬(n5<k):=by omega
    have HKQ:=HKK
    have HKU:Hid (w.cell? ⟨bq,offq+k,none⟩=some (.string key)):=hid (by simpa using hku 0 _ rfl)
    clear hku hcq p3 hkey hkok hup hGr hrr hsr HKK hG hrd hsl
    obtain⟨x0,x1,x2,x3,x4,x5,x6⟩:=HK2.out _ (Below.refl _ _)
    have HK4:Hid (∀ W,Below w3.heap.size w3 W->(W.cell? ⟨w.heap.size,0,none⟩=some (.slice A3 t.es.length n3)/\W.cell? ⟨w.heap.size,1,none⟩=some (.slice A4 t.ks.length n4)/\W.cell? ⟨w.heap.size+1,0,none⟩=some (.slice (some ⟨bq,offq,none⟩) path.length n5)/\W.cell? ⟨bq,offq+k,none⟩=some (.string key))):=fun W hW=>by
     obtain⟨a0,a1,a2,_⟩:=HKQ.out W hW
     have hBw:=(HY.out W hW).1
     exact⟨a0,a1,a2,(hBw.cell hbq).trans HKU.out⟩
    obtain⟨y0,y1,y2,y3,y4,y5,y6⟩:=HK2.out wr.drew ((Below.refl wr.heap.size wr).drew)
    go_upto_block 1 with (fail)
    go_cut [11] (fun s11 wx=>s11=.int .i64 UE/\BoxG w3.heap.size w3 29 UT UC (.pointer (some ⟨g,0,none⟩)) wx)
    case first=>
     go_upto_region 13 with (fail)
     refine wp_region_held_drew (S:=(fun W=>W.cell? ⟨w.heap.size,0,none⟩=some (.slice A3 t.es.length n3)/\W.cell? ⟨w.heap.size,1,none⟩=some (.slice A4 t.ks.length n4)/\W.cell? ⟨w.heap.size+1,0,none⟩=some (.slice (some ⟨bq,offq,none⟩) path.length n5)/\W.cell? ⟨bq,offq+k,none⟩=some (.string key))) (by kernel_rfl) ?_ (fun hHeld=>?_)
     ·go_keep
     refine wpAnyH_take (i:=0) (oi:=_) (v:=?v0) rfl (by kernel_rfl) (by kernel_rfl) (by kernel_rfl) (fun _ _ _ h=>h) (Or.inl ⟨by rfl,?h0⟩) (by assumption) ?_
     case h0=>(intro w hSw;(try dsimp only at hSw);go_simp;(try with_reducible rfl))
     simp only[Act.put,List.setIfInBounds_toArray,List.set_cons_zero,List.set_cons_succ,List.getElem_toArray,List.getElem_cons_zero]
     refine wpAnyH_take (i:=1) (oi:=_) (v:=?v1) rfl (by kernel_rfl) (by kernel_rfl) (by kernel_rfl) (fun _ _ _ h=>h) (Or.inl ⟨by rfl,?h1⟩) (by assumption) ?_
     case h1=>(intro w hSw;(try dsimp only at hSw);go_simp;(try with_reducible rfl))
     simp only[Act.put,List.setIfInBounds_toArray,List.set_cons_zero,List.set_cons_succ,List.getElem_toArray,List.getElem_cons_zero,List.getElem_cons_succ]
     refine wpAnyH_take (i:=2) (oi:=_) (v:=?v2) rfl (by kernel_rfl) (by kernel_rfl) (by kernel_rfl) (fun _ _ _ h=>h) (Or.inl ⟨by rfl,?h2⟩) (by assumption) ?_
     case h2=>(intro w hSw;(try dsimp only at hSw);go_simp;(try with_reducible rfl))
     simp only[Act.put,List.setIfInBounds_toArray,List.set_cons_zero,List.set_cons_succ,List.getElem_toArray,List.getElem_cons_zero,List.getElem_cons_succ]
     refine wpAnyH_take (i:=3) (oi:=_) (v:=?v3) rfl (by kernel_rfl) (by kernel_rfl) (by kernel_rfl) (fun _ _ _ h=>h) (Or.inl ⟨by rfl,?h3⟩) (by assumption) ?_
     case h3=>(intro w hSw;(try dsimp only at hSw);go_simp;(try with_reducible rfl))
     simp only[Act.put,List.setIfInBounds_toArray,List.set_cons_zero,List.set_cons_succ,List.getElem_toArray,List.getElem_cons_zero,List.getElem_cons_succ]
     refine wpAnyH_take (i:=4) (oi:=_) (v:=?v4) rfl (by kernel_rfl) (by kernel_rfl) (by kernel_rfl) (fun _ _ _ h=>h) (Or.inl ⟨by rfl,?h4⟩) (by assumption) ?_
     case h4=>(intro w hSw;(try dsimp only at hSw);go_simp;(try with_reducible rfl))
     simp only[Act.put,List.setIfInBounds_toArray,List.set_cons_zero,List.set_cons_succ,List.getElem_toArray,List.getElem_cons_zero,List.getElem_cons_succ]
     refine wpAnyH_take (i:=6) (oi:=_) (v:=?v6) rfl (by kernel_rfl) (by kernel_rfl) (by kernel_rfl) (fun _ _ _ h=>h) (Or.inl ⟨by rfl,?h6⟩) (by assumption) ?_
     case h6=>(intro w hSw;(try dsimp only at hSw);go_simp;(try with_reducible rfl))
     simp only[Act.put,List.setIfInBounds_toArray,List.set_cons_zero,List.set_cons_succ,List.getElem_toArray,List.getElem_cons_zero,List.getElem_cons_succ]
     refine wpAnyH_take (i:=7) (oi:=_) (v:=?v7) rfl (by kernel_rfl) (by kernel_rfl) (by kernel_rfl) (fun _ _ _ h=>h) (Or.inl ⟨by rfl,?h7⟩) (by assumption) ?_
     case h7=>(intro w hSw;(try dsimp only at hSw);go_simp;(try with_reducible rfl))
     simp only[Act.put,List.setIfInBounds_toArray,List.set_cons_zero,List.set_cons_succ,List.getElem_toArray,List.getElem_cons_zero,List.getElem_cons_succ]
     refine wpAnyH_take (i:=8) (oi:=_) (v:=?v8) rfl (by kernel_rfl) (by kernel_rfl) (by kernel_rfl) (fun _ _ _ h=>h) (Or.inl ⟨by rfl,?h8⟩) (by assumption) ?_
     case h8=>(intro w hSw;(try dsimp only at hSw);go_simp;(try with_reducible rfl))
     simp only[Act.put,List.setIfInBounds_toArray,List.set_cons_zero,List.set_cons_succ,List.getElem_toArray,List.getElem_cons_zero,List.getElem_cons_succ]
     refine wpAnyH_take (i:=9) (oi:=_) (v:=?v9) rfl (by kernel_rfl) (by kernel_rfl) (by kernel_rfl) (fun _ _ _ h=>h) (Or.inl ⟨by rfl,?h9⟩) (by assumption) ?_
     case h9=>(intro w hSw;(try dsimp only at hSw);go_simp;(try with_reducible rfl))
     simp only[Act.put,List.setIfInBounds_toArray,List.set_cons_zero,List.set_cons_succ,List.getElem_toArray,List.getElem_cons_zero,List.getElem_cons_succ]
     refine wpAnyH_take (i:=10) (oi:=_) (v:=?v10) rfl (by kernel_rfl) (by kernel_rfl) (by kernel_rfl) (fun _ _ _ h=>h) (Or.inl ⟨by rfl,?h10⟩) (by assumption) ?_
     case h10=>(intro w hSw;(try dsimp only at hSw);go_simp;(try with_reducible rfl))
     simp only[Act.put,List.setIfInBounds_toArray,List.set_cons_zero,List.set_cons_succ,List.getElem_toArray,List.getElem_cons_zero,List.getElem_cons_succ]
     refine wpAnyH_ready (rs:=[5,11]) (by kernel_rfl) (by simp) ?_
     refine AllReadyH.cons (o:=_) rfl (fun K hK=>?_) (AllReadyH.cons (o:=_) rfl (fun K hK=>?_) AllReadyH.nil)
     ·(go_simp;(go_at_call 83;go_loud ((refine (Xz t (path.take k) _ _ _ _ (HY2.out _ (by go_grown)).1 ((HY2.out _ (by go_grown)).2.1.takeK (by omega)) (by omega)).mono ?_);rw[HT'.out];rintro e w4 ⟨xe4,xk4,rfl,hrd4,hb⟩;have hbr4:Hid (Below wr.heap.size wr w4):=hid (Below.trans (by go_grown) (hb.mono (by first|omega|(simp;done)|(simp;omega))));have hsr4:=hbr4.out.size;obtain⟨Ar4,nr4,Br4,mr4,hv1,hv2⟩:=Ql hrd4;subst hv1;subst hv2;have HRT:Hid (∀ W,Below w4.heap.size w4 W->T'.rd W W.heap.size (.slice Ar4 T'.es.length nr4) (.slice Br4 T'.ks.length mr4)):=fun W hW=>Zx hrd4 (fun b hb=>hb.2) hW;obtain⟨u0,u1,u2,u3,u4,u5,u6⟩:=HK2.out w4 hbr4.out;clear hb));go_wp2_with fail)
      refine hK.out _ _ ?_ (fun hHeld5=>?_)
      ·(first|go_keep|exact HK4.out _ ((((hbr.trans (hbr5.out.mono hsr3)).setCell hgm _).setCell hgm _).setCell hgm _)|exact HK4.out _ (hbr.trans (hbr5.out.mono hsr3))|exact HK4.out _ (hbr.trans ((hbr5.out.trans (by go_grown)).mono hsr3))|exact HK4.out _ (hbr.trans (hbr4.out.mono hsr3))|exact HK4.out _ (hbr.trans ((hbr4.out.trans (by go_grown)).mono hsr3))|exact HK4.out _ (hbr.trans (Below.mono (by go_grown) hsr3))|fail)
      clear hK K
      try simp only[Act.put,List.setIfInBounds_toArray,List.set_cons_zero,List.set_cons_succ,List.getElem_toArray,List.getElem_cons_zero,List.getElem_cons_succ]
      refine wpAnyH_ready (rs:=[11]) (by kernel_rfl) (by simp) ?_
      refine AllReadyH.cons (o:=_) rfl (fun K hK=>?_) AllReadyH.nil
      go_simp
      refine hK.out _ _ ?_ (fun hHeld11=>?_)
      ·(first|go_keep|exact HK4.out _ ((((hbr.trans (hbr5.out.mono hsr3)).setCell hgm _).setCell hgm _).setCell hgm _)|exact HK4.out _ (hbr.trans (hbr5.out.mono hsr3))|exact HK4.out _ (hbr.trans ((hbr5.out.trans (by go_grown)).mono hsr3))|exact HK4.out _ (hbr.trans (hbr4.out.mono hsr3))|exact HK4.out _ (hbr.trans ((hbr4.out.trans (by go_grown)).mono hsr3))|exact HK4.out _ (hbr.trans (Below.mono (by go_grown) hsr3))|fail)
      clear hK K
      try simp only[Act.put,List.setIfInBounds_toArray,List.set_cons_zero,List.set_cons_succ,List.getElem_toArray,List.getElem_cons_zero,List.getElem_cons_succ]
      refine wpAnyH_ready (rs:=[12]) (by kernel_rfl) (by simp) ?_
      refine AllReadyH.cons (o:=_) rfl (fun K hK=>?_) AllReadyH.nil
      (go_simp;(go_at_call 100;go_loud ((refine (Kj T' XT XC key _ _ _ _ _ _ (HRT.out _ (by go_grown)) (HY2.out _ (hbr4.out.trans (by go_grown))).2.2.1 (HY2.out _ (hbr4.out.trans (by go_grown))).2.2.2 HKOK.out (by omega) (by omega) (by omega)).mono ?_);rw[HU1.out,HU2.out,HU3.out];rintro e w5 ⟨xe5,xk5,xc5,rfl,hrd5,hsl5,hb⟩;have hbr5:Hid (Below wr.heap.size wr w5):=hid (Below.trans (hbr4.out.trans (by go_grown)) (hb.mono (by first|omega|(simp;done)|(simp;omega))));have hsr5:=hbr5.out.size;obtain⟨Ar5,nr5,Br5,mr5,hv1,hv2⟩:=Ql hrd5;subst hv1;subst hv2;obtain⟨Dr5,kr5,hv3⟩:=hsl5.shape;subst hv3;have HR5:=hid hrd5;have HL5:=hid hsl5;have HG5:=hid ((hbr5.out.block g hgr).trans HGr.out);obtain⟨v0,v1,v2,v3,v4,v5,v6⟩:=HK2.out w5 hbr5.out;have z0:=Qb (i:=0) HG5.out;have z1:=Qb (i:=1) HG5.out;have z2:=Qb (i:=2) HG5.out;clear hrd5 hsl5 hb));go_wp2_with fail)
      refine hK.out _ _ ?_ (fun hHeld12=>?_)
      ·(first|go_keep|exact HK4.out _ ((((hbr.trans (hbr5.out.mono hsr3)).setCell hgm _).setCell hgm _).setCell hgm _)|exact HK4.out _ (hbr.trans (hbr5.out.mono hsr3))|exact HK4.out _ (hbr.trans ((hbr5.out.trans (by go_grown)).mono hsr3))|exact HK4.out _ (hbr.trans (hbr4.out.mono hsr3))|exact HK4.out _ (hbr.trans ((hbr4.out.trans (by go_grown)).mono hsr3))|exact HK4.out _ (hbr.trans (Below.mono (by go_grown) hsr3))|fail)
      clear hK K
      try simp only[Act.put,List.setIfInBounds_toArray,List.set_cons_zero,List.set_cons_succ,List.getElem_toArray,List.getElem_cons_zero,List.getElem_cons_succ]
      refine wpAnyH_take (i:=13) (oi:=_) (v:=?v13) rfl (by kernel_rfl) (by kernel_rfl) (by kernel_rfl) (fun _ _ _ h=>h) (Or.inl ⟨by rfl,?h13⟩) (by assumption) ?_
      case h13=>(intro w hSw;(try dsimp only at hSw);go_simp;(try with_reducible rfl))
      simp only[Act.put,List.setIfInBounds_toArray,List.set_cons_zero,List.set_cons_succ,List.getElem_toArray,List.getElem_cons_zero,List.getElem_cons_succ]
      refine wpAnyH_take (i:=14) (oi:=_) (v:=?v14) rfl (by kernel_rfl) (by kernel_rfl) (by kernel_rfl) (fun _ _ _ h=>h) (Or.inl ⟨by rfl,?h14⟩) (by assumption) ?_
      case h14=>(intro w hSw;(try dsimp only at hSw);go_simp;(try with_reducible rfl))
      simp only[Act.put,List.setIfInBounds_toArray,List.set_cons_zero,List.set_cons_succ,List.getElem_toArray,List.getElem_cons_zero,List.getElem_cons_succ]
      refine wpAnyH_take (i:=15) (oi:=_) (v:=?v15) rfl (by kernel_rfl) (by kernel_rfl) (by kernel_rfl) (fun _ _ _ h=>h) (Or.inl ⟨by rfl,?h15⟩) (by assumption) ?_
      case h15=>(intro w hSw;(try dsimp only at hSw);go_simp;(try with_reducible rfl))
      simp only[Act.put,List.setIfInBounds_toArray,List.set_cons_zero,List.set_cons_succ,List.getElem_toArray,List.getElem_cons_zero,List.getElem_cons_succ]
      refine wpAnyH_ready (rs:=[16]) (by kernel_rfl) (by simp) ?_
      refine AllReadyH.cons (o:=_) rfl (fun K hK=>?_) AllReadyH.nil
      go_simp
      refine hK.out _ _ ?_ (fun hHeld16=>?_)
      ·(first|go_keep|exact HK4.out _ ((((hbr.trans (hbr5.out.mono hsr3)).setCell hgm _).setCell hgm _).setCell hgm _)|exact HK4.out _ (hbr.trans (hbr5.out.mono hsr3))|exact HK4.out _ (hbr.trans ((hbr5.out.trans (by go_grown)).mono hsr3))|exact HK4.out _ (hbr.trans (hbr4.out.mono hsr3))|exact HK4.out _ (hbr.trans ((hbr4.out.trans (by go_grown)).mono hsr3))|exact HK4.out _ (hbr.trans (Below.mono (by go_grown) hsr3))|fail)
      clear hK K
      try simp only[Act.put,List.setIfInBounds_toArray,List.set_cons_zero,List.set_cons_succ,List.getElem_toArray,List.getElem_cons_zero,List.getElem_cons_succ]
      refine wpAnyH_take (i:=17) (oi:=_) (v:=?v17) rfl (by kernel_rfl) (by kernel_rfl) (by kernel_rfl) (fun _ _ _ h=>h) (Or.inl ⟨by rfl,?h17⟩) (by assumption) ?_
      case h17=>(intro w hSw;(try dsimp only at hSw);go_simp;(try with_reducible rfl))
      simp only[Act.put,List.setIfInBounds_toArray,List.set_cons_zero,List.set_cons_succ,List.getElem_toArray,List.getElem_cons_zero,List.getElem_cons_succ]
      refine wpAnyH_done (by kernel_rfl) ?_ _
      go_wp2_with fail
      go_meet
      case rel=>exact⟨rfl,XR HG5.out (hbr.trans (hbr5.out.mono (by omega))) hgm (by first|omega|(simp;omega)) HR5.out HL5.out⟩
     ·go_simp
      refine hK.out _ _ ?_ (fun hHeld11=>?_)
      ·(first|go_keep|exact HK4.out _ ((((hbr.trans (hbr5.out.mono hsr3)).setCell hgm _).setCell hgm _).setCell hgm _)|exact HK4.out _ (hbr.trans (hbr5.out.mono hsr3))|exact HK4.out _ (hbr.trans ((hbr5.out.trans (by go_grown)).mono hsr3))|exact HK4.out _ (hbr.trans (hbr4.out.mono hsr3))|exact HK4.out _ (hbr.trans ((hbr4.out.trans (by go_grown)).mono hsr3))|exact HK4.out _ (hbr.trans (Below.mono (by go_grown) hsr3))|fail)
      clear hK K
      try simp only[Act.put,List.setIfInBounds_toArray,List.set_cons_zero,List.set_cons_succ,List.getElem_toArray,List.getElem_cons_zero,List.getElem_cons_succ]
      refine wpAnyH_ready (rs:=[5]) (by kernel_rfl) (by simp) ?_
      refine AllReadyH.cons (o:=_) rfl (fun K hK=>?_) AllReadyH.nil
      (go_simp;(go_at_call 83;go_loud ((refine (Xz t (path.take k) _ _ _ _ (HY2.out _ (by go_grown)).1 ((HY2.out _ (by go_grown)).2.1.takeK (by omega)) (by omega)).mono ?_);rw[HT'.out];rintro e w4 ⟨xe4,xk4,rfl,hrd4,hb⟩;have hbr4:Hid (Below wr.heap.size wr w4):=hid (Below.trans (by go_grown) (hb.mono (by first|omega|(simp;done)|(simp;omega))));have hsr4:=hbr4.out.size;obtain⟨Ar4,nr4,Br4,mr4,hv1,hv2⟩:=Ql hrd4;subst hv1;subst hv2;have HRT:Hid (∀ W,Below w4.heap.size w4 W->T'.rd W W.heap.size (.slice Ar4 T'.es.length nr4) (.slice Br4 T'.ks.length mr4)):=fun W hW=>Zx hrd4 (fun b hb=>hb.2) hW;obtain⟨u0,u1,u2,u3,u4,u5,u6⟩:=HK2.out w4 hbr4.out;clear hb));go_wp2_with fail)
      refine hK.out _ _ ?_ (fun hHeld5=>?_)
      ·(first|go_keep|exact HK4.out _ ((((hbr.trans (hbr5.out.mono hsr3)).setCell hgm _).setCell hgm _).setCell hgm _)|exact HK4.out _ (hbr.trans (hbr5.out.mono hsr3))|exact HK4.out _ (hbr.trans ((hbr5.out.trans (by go_grown)).mono hsr3))|exact HK4.out _ (hbr.trans (hbr4.out.mono hsr3))|exact HK4.out _ (hbr.trans ((hbr4.out.trans (by go_grown)).mono hsr3))|exact HK4.out _ (hbr.trans (Below.mono (by go_grown) hsr3))|fail)
      clear hK K
      try simp only[Act.put,List.setIfInBounds_toArray,List.set_cons_zero,List.set_cons_succ,List.getElem_toArray,List.getElem_cons_zero,List.getElem_cons_succ]
      refine wpAnyH_ready (rs:=[12]) (by kernel_rfl) (by simp) ?_
      refine AllReadyH.cons (o:=_) rfl (fun K hK=>?_) AllReadyH.nil
      (go_simp;(go_at_call 100;go_loud ((refine (Kj T' XT XC key _ _ _ _ _ _ (HRT.out _ (by go_grown)) (HY2.out _ (hbr4.out.trans (by go_grown))).2.2.1 (HY2.out _ (hbr4.out.trans (by go_grown))).2.2.2 HKOK.out (by omega) (by omega) (by omega)).mono ?_);rw[HU1.out,HU2.out,HU3.out];rintro e w5 ⟨xe5,xk5,xc5,rfl,hrd5,hsl5,hb⟩;have hbr5:Hid (Below wr.heap.size wr w5):=hid (Below.trans (hbr4.out.trans (by go_grown)) (hb.mono (by first|omega|(simp;done)|(simp;omega))));have hsr5:=hbr5.out.size;obtain⟨Ar5,nr5,Br5,mr5,hv1,hv2⟩:=Ql hrd5;subst hv1;subst hv2;obtain⟨Dr5,kr5,hv3⟩:=hsl5.shape;subst hv3;have HR5:=hid hrd5;have HL5:=hid hsl5;have HG5:=hid ((hbr5.out.block g hgr).trans HGr.out);obtain⟨v0,v1,v2,v3,v4,v5,v6⟩:=HK2.out w5 hbr5.out;have z0:=Qb (i:=0) HG5.out;have z1:=Qb (i:=1) HG5.out;have z2:=Qb (i:=2) HG5.out;clear hrd5 hsl5 hb));go_wp2_with fail)
      refine hK.out _ _ ?_ (fun hHeld12=>?_)
      ·(first|go_keep|exact HK4.out _ ((((hbr.trans (hbr5.out.mono hsr3)).setCell hgm _).setCell hgm _).setCell hgm _)|exact HK4.out _ (hbr.trans (hbr5.out.mono hsr3))|exact HK4.out _ (hbr.trans ((hbr5.out.trans (by go_grown)).mono hsr3))|exact HK4.out _ (hbr.trans (hbr4.out.mono hsr3))|exact HK4.out _ (hbr.trans ((hbr4.out.trans (by go_grown)).mono hsr3))|exact HK4.out _ (hbr.trans (Below.mono (by go_grown) hsr3))|fail)
      clear hK K
      try simp only[Act.put,List.setIfInBounds_toArray,List.set_cons_zero,List.set_cons_succ,List.getElem_toArray,List.getElem_cons_zero,List.getElem_cons_succ]
      refine wpAnyH_take (i:=13) (oi:=_) (v:=?vb13) rfl (by kernel_rfl) (by kernel_rfl) (by kernel_rfl) (fun _ _ _ h=>h) (Or.inl ⟨by rfl,?hb13⟩) (by assumption) ?_
      case hb13=>(intro w hSw;(try dsimp only at hSw);go_simp;(try with_reducible rfl))
      simp only[Act.put,List.setIfInBounds_toArray,List.set_cons_zero,List.set_cons_succ,List.getElem_toArray,List.getElem_cons_zero,List.getElem_cons_succ]
      refine wpAnyH_take (i:=14) (oi:=_) (v:=?vb14) rfl (by kernel_rfl) (by kernel_rfl) (by kernel_rfl) (fun _ _ _ h=>h) (Or.inl ⟨by rfl,?hb14⟩) (by assumption) ?_
      case hb14=>(intro w hSw;(try dsimp only at hSw);go_simp;(try with_reducible rfl))
      simp only[Act.put,List.setIfInBounds_toArray,List.set_cons_zero,List.set_cons_succ,List.getElem_toArray,List.getElem_cons_zero,List.getElem_cons_succ]
      refine wpAnyH_take (i:=15) (oi:=_) (v:=?vb15) rfl (by kernel_rfl) (by kernel_rfl) (by kernel_rfl) (fun _ _ _ h=>h) (Or.inl ⟨by rfl,?hb15⟩) (by assumption) ?_
      case hb15=>(intro w hSw;(try dsimp only at hSw);go_simp;(try with_reducible rfl))
      simp only[Act.put,List.setIfInBounds_toArray,List.set_cons_zero,List.set_cons_succ,List.getElem_toArray,List.getElem_cons_zero,List.getElem_cons_succ]
      refine wpAnyH_ready (rs:=[16]) (by kernel_rfl) (by simp) ?_
      refine AllReadyH.cons (o:=_) rfl (fun K hK=>?_) AllReadyH.nil
      go_simp
      refine hK.out _ _ ?_ (fun hHeld16=>?_)
      ·(first|go_keep|exact HK4.out _ ((((hbr.trans (hbr5.out.mono hsr3)).setCell hgm _).setCell hgm _).setCell hgm _)|exact HK4.out _ (hbr.trans (hbr5.out.mono hsr3))|exact HK4.out _ (hbr.trans ((hbr5.out.trans (by go_grown)).mono hsr3))|exact HK4.out _ (hbr.trans (hbr4.out.mono hsr3))|exact HK4.out _ (hbr.trans ((hbr4.out.trans (by go_grown)).mono hsr3))|exact HK4.out _ (hbr.trans (Below.mono (by go_grown) hsr3))|fail)
      clear hK K
      try simp only[Act.put,List.setIfInBounds_toArray,List.set_cons_zero,List.set_cons_succ,List.getElem_toArray,List.getElem_cons_zero,List.getElem_cons_succ]
      refine wpAnyH_take (i:=17) (oi:=_) (v:=?vb17) rfl (by kernel_rfl) (by kernel_rfl) (by kernel_rfl) (fun _ _ _ h=>h) (Or.inl ⟨by rfl,?hb17⟩) (by assumption) ?_
      case hb17=>(intro w hSw;(try dsimp only at hSw);go_simp;(try with_reducible rfl))
      simp only[Act.put,List.setIfInBounds_toArray,List.set_cons_zero,List.set_cons_succ,List.getElem_toArray,List.getElem_cons_zero,List.getElem_cons_succ]
      refine wpAnyH_done (by kernel_rfl) ?_ _
      go_wp2_with fail
      go_meet
      case rel=>exact⟨rfl,XR HG5.out (hbr.trans (hbr5.out.mono (by omega))) hgm (by first|omega|(simp;omega)) HR5.out HL5.out⟩
    case rest=>
     obtain⟨rfl,g',hgg,_,xa',xb',xd',hG',hr',hs',hbz'⟩:=hcut
     simp only[Value.pointer.injEq,Option.some.injEq,Addr.mk.injEq]at hgg
     obtain⟨rfl,_⟩:=hgg
     go_wp2_with fail
     go_roundw
     case rel=>exact⟨k,(UT,UC,UE),by omega,by go_num,rfl,HUP.out,by simp only;omega,by simp only;omega,⟨_,_,_,hG',hr',hs'⟩,hbz'⟩
     case measure=>first|(simp[intOf];done)|(simp[intOf];omega)
end Go.Proofs.YtbcoelggdikipaaGreat
